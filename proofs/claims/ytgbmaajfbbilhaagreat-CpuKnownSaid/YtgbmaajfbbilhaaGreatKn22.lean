/- Chapter 5: a part of its proof (cut by program out of CpuM2, CpuI); no condition. -/
import Derived.BigQuiet
import Derived.Deep.QuietTactic
import Derived.Test.YtgbmaajfbbilhaaGreatKn19
import Derived.Test.YtgbmaajfbbilhaaGreatKn20
import Derived.Test.YtgbmaajfbbilhaaGreatKn21
set_option linter.unusedVariables false
set_option linter.unusedSimpArgs false
set_option linter.unusedSectionVars false
set_option maxRecDepth 100000
set_option maxHeartbeats 8000000
section
namespace Go.Proofs.YtgbmaajfbbilhaaGreat.Cpu
open Go.RowKit Go.Proofs.YtgbmaajfbbilhaaGreat.PAll Go.Proofs.YtgbmaajfbbilhaaGreat.One Go.Proofs.YtgbmaajfbbilhaaGreat.Mem Go.Proofs.YtgbmaajfbbilhaaGreat.Row Go.Proofs.YtgbmaajfbbilhaaGreatW.PrintWords Go.Proofs.YtgbmaajfbbilhaaGreatW.PrintLast Go.Proofs.YtgbmaajfbbilhaaGreatW.PrintMore Go.Proofs.YtgbmaajfbbilhaaGreat.Plain
section
variable {c : Cx} {n : Nat} {st : St} {w : World}
theorem out_1 (h : c.P n st w) (u : Int) (u0 : 0 ≤ u) (u1 : u ≤ 32767) (hk : st.k = 1) : Calls Tryz.prog 141 #[.pointer (some ⟨c.p, 0, none⟩), .int .u16 u] w fun e w' => e = .returned (.tuple #[]) ∧ c.P (n) (st.out u) w' := by
 have HR := Aside0.mk h
 clear h
 have x21 := HR.out.c21
 have y1 : (st.k == 1) = true := by rw [hk]; rfl
 have y2 : (st.k == 2) = false := by rw [hk]; rfl
 have y7 : (st.k == 7) = false := by rw [hk]; rfl
 have e3 : Go.bits .and .u16 (u / 16) 7 = u / 16 % 8 := and_7 (by omega) (by omega)
 have hu0 := Tryz.underlying124
 have hu1 := Tryz.underlying26
 have hu2 := Tryz.underlying34
 have hu3 := Tryz.underlying103
 have hu4 := Tryz.underlying29
 go_enter Tryz.func141, Tryz.ntmps141
 go_wp2_with (first | (refine HR.out.e1 rfl _ _ _ rfl rfl _ rfl ?hi ?_; (case hi => kernel_rfl); intro wc hR; replace HR := Aside0.mk hR; clear hR))
 first | go_end0 | ((try simp only [Exit.inBlock, Exit.then]); refine bodyPost_ret (results_none rfl _ _ _) rfl ?_)
 refine ⟨rfl, ?_⟩
 unfold St.out
 rw [hk]
 have := HR.out
 rw [hk] at this
 exact this
theorem out_2 (h : c.P n st w) (u : Int) (u0 : 0 ≤ u) (u1 : u ≤ 32767) (hk : st.k = 2) : Calls Tryz.prog 141 #[.pointer (some ⟨c.p, 0, none⟩), .int .u16 u] w fun e w' => e = .returned (.tuple #[]) ∧ c.P (n) (st.out u) w' := by
 have HR := Aside0.mk h
 clear h
 have x21 := HR.out.c21
 have y1 : (st.k == 1) = false := by rw [hk]; rfl
 have y2 : (st.k == 2) = true := by rw [hk]; rfl
 have y7 : (st.k == 7) = false := by rw [hk]; rfl
 have e3 : Go.bits .and .u16 (u / 16) 7 = u / 16 % 8 := and_7 (by omega) (by omega)
 have hu0 := Tryz.underlying124
 have hu1 := Tryz.underlying26
 have hu2 := Tryz.underlying34
 have hu3 := Tryz.underlying103
 have hu4 := Tryz.underlying29
 go_enter Tryz.func141, Tryz.ntmps141
 go_wp2_with (first | (refine HR.out.e2 rfl _ _ _ rfl rfl _ rfl ?hi ?_; (case hi => kernel_rfl); intro wc hR; replace HR := Aside0.mk hR; clear hR))
 first | go_end0 | ((try simp only [Exit.inBlock, Exit.then]); refine bodyPost_ret (results_none rfl _ _ _) rfl ?_)
 refine ⟨rfl, ?_⟩
 unfold St.out
 rw [hk]
 have := HR.out
 rw [hk] at this
 exact this
theorem out_7 (h : c.P n st w) (u : Int) (u0 : 0 ≤ u) (u1 : u ≤ 32767) (hk : st.k = 7) : Calls Tryz.prog 141 #[.pointer (some ⟨c.p, 0, none⟩), .int .u16 u] w fun e w' => e = .returned (.tuple #[]) ∧ c.P (n) (st.out u) w' := by
 have HR := Aside0.mk h
 clear h
 have x21 := HR.out.c21
 have y1 : (st.k == 1) = false := by rw [hk]; rfl
 have y2 : (st.k == 2) = false := by rw [hk]; rfl
 have y7 : (st.k == 7) = true := by rw [hk]; rfl
 have e3 : Go.bits .and .u16 (u / 16) 7 = u / 16 % 8 := and_7 (by omega) (by omega)
 have hu0 := Tryz.underlying124
 have hu1 := Tryz.underlying26
 have hu2 := Tryz.underlying34
 have hu3 := Tryz.underlying103
 have hu4 := Tryz.underlying29
 go_enter Tryz.func141, Tryz.ntmps141
 go_wp2_with (first | (refine HR.out.e6 rfl _ _ _ rfl rfl _ rfl ?hi ?_; (case hi => kernel_rfl); intro wc hR; replace HR := Aside0.mk hR; clear hR))
 first | go_end0 | ((try simp only [Exit.inBlock, Exit.then]); refine bodyPost_ret (results_none rfl _ _ _) rfl ?_)
 refine ⟨rfl, ?_⟩
 unfold St.out
 rw [hk]
 have := HR.out
 rw [hk] at this
 exact this
theorem out_d (h : c.P n st w) (u : Int) (u0 : 0 ≤ u) (u1 : u ≤ 32767) (h1 : st.k ≠ 1) (h2 : st.k ≠ 2) (h7 : st.k ≠ 7) (hn : n ≤ 90) : Calls Tryz.prog 141 #[.pointer (some ⟨c.p, 0, none⟩), .int .u16 u] w fun e w' => e = .returned (.tuple #[]) ∧ c.P (n + 1) (st.out u) w' := by
 have HR := Aside0.mk h
 clear h
 have x21 := HR.out.c21
 have y1 : (st.k == 1) = false := by simpa using h1
 have y2 : (st.k == 2) = false := by simpa using h2
 have y7 : (st.k == 7) = false := by simpa using h7
 have hu0 := Tryz.underlying124
 have hu1 := Tryz.underlying26
 have hu2 := Tryz.underlying34
 have hu3 := Tryz.underlying103
 have hu4 := Tryz.underlying29
 go_enter Tryz.func141, Tryz.ntmps141
 go_upto_region 1 with (fail)
 obtain ⟨⟨vC, vO, vR, hF⟩, hok, hsz⟩ := HR.out
 have HF := Aside0.mk (hF.below (below_drew (Below.refl _ _)))
 have HLEN := Aside0.mk (show (st.outs.length + 1) * 16 ≤ 140737488355328 from by unfold St.sz at hsz; omega)
 clear hF HR
 refine start_ (n := 18) (S := fun w' => w'.cell? ⟨c.p, 14, none⟩ = some vO ∧ w'.cell? ⟨c.p, 21, none⟩ = some (.int .i64 st.k)) (ds := [17]) #[false, false, false, false, false, false, false, false, false, false, false, false, false, false, false, false, false, false] (by kernel_rfl) rfl rfl ⟨(blk_cell HF.out.blk 14).trans rfl, (blk_cell HF.out.blk 21).trans rfl⟩ (fun hHeld => ?_)
 generalize w.drew = wd at HF hHeld ⊢
 refine pvq_ 0 (some 8) rfl rfl ?_
 refine pvq_ 1 (some 9) rfl rfl ?_
 refine pvq_ 2 (some 10) rfl rfl ?_
 refine pvq_ 3 (some 11) rfl rfl ?_
 refine pvq_ 4 (some 12) rfl rfl ?_
 refine pvq_ 6 (some 14) rfl rfl ?_
 refine pvq_ 7 (some 15) rfl rfl ?_
 refine pvq_ 8 (some 16) rfl rfl ?_
 refine pvq_ 10 (some 18) rfl rfl ?_
 refine tkq_ 5 (some 13) rfl rfl hHeld ?_
 refine tkq_ 9 (some 17) rfl rfl hHeld ?_
 refine pvq_ 11 (some 19) rfl rfl ?_
 refine onq_ 12 (some 20) rfl rfl (fun K hK => ?_)
 refine Kd.R_lit_step k47 _ 47 ?hg (N := 20) ?hd (xs := ([⟨st.k, u⟩] : List Cl)) (inner := [.int .i64 (st.k), .int .u16 (u)]) (ok := fun _ => True) (okp := fun _ => True) ?hr ?hp (fun _ hk => hk) trivial (Below.refl _ _) (Nat.le_refl _) (by simp) ?_; (case hd => rfl); (case hg => rfl); (case hr => first | (go_simp; done) | (go_simp; rfl)); (case hp => exact (Reps.c2 (show Kd.M k47 _ _ _ (⟨st.k, u⟩ : Cl) [.int .i64 (st.k), .int .u16 (u)] from (k47_mkM _ _ _ (⟨st.k, u⟩ : Cl))) (Reps.none _ _)))
 intro vl wl ho hb hg_ hnew_
 clear hg_ hnew_
 obtain ⟨A, k, rfl, hk, hC⟩ := Kd.R_reads ho
 have HC := Aside0.mk hC
 replace HF := Aside0.mk (HF.out.below hb)
 clear ho hb hC
 refine hK.out _ _ ⟨(blk_cell HF.out.blk 14).trans rfl, (blk_cell HF.out.blk 21).trans rfl⟩ (fun hHeld => ?_)
 clear hK K
 refine nmq_ (some 20) ?_
 refine onq_ 13 (some 21) rfl rfl (fun K hK => ?_)
 refine Kd.R_append_rows_step k47 (Rr := k47.K wl) (w0 := c.w0) c.w0.heap.size ?hw (.tmp 13) (.tmp 20) 30 47 (.agg #[.int .i64 0, .int .u16 0]) 16 ?ho Tryz.underlying30 infoCell rfl (by decide) (by decide) vO st.outs _ A _ k _ (fun _ => False) ?hs ?hx HF.out.ro HC.out ?hKM (fun _ hk => hk.elim) HF.out.freshO HF.out.hb HF.out.base ?hl ?_
 case hw => rfl
 case ho => rfl
 case hs => rfl
 case hx => rfl
 case hKM => exact fun y cs hy => by obtain rfl := k47_open hy; exact k47_mkM _ _ _ y
 case hl => exact HLEN.out
 intro v1 w1 hr hb hg hat
 obtain ⟨B1, k1, e1, hk1, hC1⟩ := Kd.R_reads hr
 rw [List.length_append] at e1
 subst e1
 replace HF := Aside0.mk (RunF.appO HF.out hr hb hg hat)
 clear hr hb hg hat hk1 hC1
 refine hK.out _ _ ⟨(blk_cell HF.out.blk 14).trans rfl, (blk_cell HF.out.blk 21).trans rfl⟩ (fun hHeld => ?_)
 clear hK K
 refine nmq_ (some 21) ?_
 refine pvq_ 14 (some 22) rfl rfl ?_
 refine pvq_ 15 (some 23) rfl rfl ?_
 refine pvq_ 16 (some 24) rfl rfl ?_
 refine laq_ 17 none rfl rfl (fun K hK => ?_)
 refine skip_ (w1 := World.setCell w1 ⟨c.p, 14, none⟩ (.slice B1 (st.outs.length + 1) k1)) (by rfl) rfl ?_ ?_
 · exact run_store_cell _ _ _ rfl c.p 14 rfl (.slice B1 (st.outs.length + 1) k1) rfl vO ((blk_cell HF.out.blk 14).trans rfl) (blk_frozen HF.out.blk 14) rfl rfl (by kernel_rfl)
 replace HF := Aside0.mk (RunF.set HF.out 14 (.slice B1 (st.outs.length + 1) k1))
 generalize World.setCell _ _ _ = wf at HF ⊢
 refine hK.out _ _ ?_
 clear hK K
 refine done_ (by kernel_rfl) ?_
 go_wp2
 first | go_end0 | ((try simp only [Exit.inBlock, Exit.then]); refine bodyPost_ret (results_none rfl _ _ _) rfl ?_)
 refine ⟨rfl, ⟨?_, hok, Nat.le_trans (out_sz _ _) (by omega)⟩⟩
 unfold St.out
 rw [if_neg h1, if_neg h2, if_neg h7]
 exact ⟨vC, (.slice B1 (st.outs.length + 1) k1), vR, HF.out⟩
theorem out_c (h : c.P n st w) (u : Int) (u0 : 0 ≤ u) (u1 : u ≤ 32767) (hn : n ≤ 90) : Calls Tryz.prog 141 #[.pointer (some ⟨c.p, 0, none⟩), .int .u16 u] w fun e w' => e = .returned (.tuple #[]) ∧ c.P (n + 1) (st.out u) w' := by
 have up : ∀ {s : St} {w1 : World}, c.P n s w1 → c.P (n + 1) s w1 := fun h => ⟨h.run, h.ok, by have := h.sz; omega⟩
 by_cases h1 : st.k = 1
 · exact (out_1 h u u0 u1 h1).mono fun e w' ⟨he, hp⟩ => ⟨he, up hp⟩
 · by_cases h2 : st.k = 2
   · exact (out_2 h u u0 u1 h2).mono fun e w' ⟨he, hp⟩ => ⟨he, up hp⟩
   · by_cases h7 : st.k = 7
     · exact (out_7 h u u0 u1 h7).mono fun e w' ⟨he, hp⟩ => ⟨he, up hp⟩
     · exact out_d h u u0 u1 h1 h2 h7 hn
theorem both_c (h : c.P n st w) (u : Int) (u0 : 0 ≤ u) (u1 : u ≤ 32767) (hn : n ≤ 90) : Calls Tryz.prog 146 #[.pointer (some ⟨c.p, 0, none⟩), .int .u16 u] w fun e w' => e = .returned (.tuple #[]) ∧ c.P (n + 1) (xBoth st u) w' := by
 have HR := Aside0.mk h
 clear h
 have hu0 := Tryz.underlying124
 have hu1 := Tryz.underlying26
 have hu2 := Tryz.underlying34
 have hu3 := Tryz.underlying103
 have hu4 := Tryz.underlying29
 go_enter Tryz.func146, Tryz.ntmps146
 go_wp2_with (first | (go_at_call 141; (with_reducible refine at_args #[.pointer (some ⟨c.p, 0, none⟩), .int .u16 u] ?_); (with_reducible refine (out_c HR.out u u0 u1 hn).mono ?_); rintro e wc ⟨rfl, hR⟩; replace HR := Aside0.mk hR; clear hR) | (go_at_call 132; (with_reducible refine at_args #[.pointer (some ⟨c.p, 0, none⟩), .int .u16 u] ?_); (with_reducible refine (set_c HR.out u u0 (by omega)).mono ?_); rintro e wc ⟨rfl, hR⟩; replace HR := Aside0.mk hR; clear hR))
 first | (go_end0; exact ⟨rfl, HR.out⟩) | ((try simp only [Exit.inBlock, Exit.then]); refine bodyPost_ret (results_none rfl _ _ _) rfl ⟨rfl, HR.out⟩) | (go_ret; exact ⟨rfl, HR.out⟩)
theorem chan_1 (h : c.P n st w) (ok : st.r.Ok) (hk : st.k = 1) : Calls Tryz.prog 139 #[.pointer (some ⟨c.p, 0, none⟩)] w fun e w' => e = .returned (.int .u16 (st.chan c.v)) ∧ c.P (n) (st) w' := by
 have HR := Aside0.mk h
 clear h
 have x21 := HR.out.c21
 have x1 := HR.out.c1
 have y1 : (st.k == 1) = true := by rw [hk]; rfl
 have y2 : (st.k == 2) = false := by rw [hk]; rfl
 have y7 : (st.k == 7) = false := by rw [hk]; rfl
 have e3 : IntKind.i64.wrap (st.r.su * 16) = 16 * st.r.su := by { have := ok.s0; have := ok.s1; rw [wraps64 _ (by omega) (by omega)]; omega }
 have e4 : IntKind.u16.wrap (16 * st.r.su) = 16 * st.r.su := u16w (by have := ok.s0; omega) (by have := ok.s1; omega)
 have e5 : wrap64 (st.r.su * 16) = 16 * st.r.su := by { have := ok.s0; have := ok.s1; unfold wrap64; omega }
 unfold St.chan
 rw [hk]
 have hu0 := Tryz.underlying124
 have hu1 := Tryz.underlying26
 have hu2 := Tryz.underlying34
 have hu3 := Tryz.underlying103
 have hu4 := Tryz.underlying29
 go_enter Tryz.func139, Tryz.ntmps139
 rw [hk] at x21
 go_wp2
 go_ret
 exact ⟨rfl, HR.out⟩
theorem chan_2 (h : c.P n st w) (ok : st.r.Ok) (hk : st.k = 2) : Calls Tryz.prog 139 #[.pointer (some ⟨c.p, 0, none⟩)] w fun e w' => e = .returned (.int .u16 (st.chan c.v)) ∧ c.P (n) (st) w' := by
 have HR := Aside0.mk h
 clear h
 have x21 := HR.out.c21
 have x2 := HR.out.c2
 have y1 : (st.k == 1) = false := by rw [hk]; rfl
 have y2 : (st.k == 2) = true := by rw [hk]; rfl
 have y7 : (st.k == 7) = false := by rw [hk]; rfl
 have e3 : IntKind.i64.wrap (st.r.su * 16) = 16 * st.r.su := by { have := ok.s0; have := ok.s1; rw [wraps64 _ (by omega) (by omega)]; omega }
 have e4 : IntKind.u16.wrap (16 * st.r.su) = 16 * st.r.su := u16w (by have := ok.s0; omega) (by have := ok.s1; omega)
 have e5 : wrap64 (st.r.su * 16) = 16 * st.r.su := by { have := ok.s0; have := ok.s1; unfold wrap64; omega }
 unfold St.chan
 rw [hk]
 have hu0 := Tryz.underlying124
 have hu1 := Tryz.underlying26
 have hu2 := Tryz.underlying34
 have hu3 := Tryz.underlying103
 have hu4 := Tryz.underlying29
 go_enter Tryz.func139, Tryz.ntmps139
 rw [hk] at x21
 go_wp2
 go_ret
 exact ⟨rfl, HR.out⟩
theorem chan_7 (h : c.P n st w) (ok : st.r.Ok) (hk : st.k = 7) : Calls Tryz.prog 139 #[.pointer (some ⟨c.p, 0, none⟩)] w fun e w' => e = .returned (.int .u16 (st.chan c.v)) ∧ c.P (n) (st) w' := by
 have HR := Aside0.mk h
 clear h
 have x21 := HR.out.c21
 have x6 := HR.out.c6
 have y1 : (st.k == 1) = false := by rw [hk]; rfl
 have y2 : (st.k == 2) = false := by rw [hk]; rfl
 have y7 : (st.k == 7) = true := by rw [hk]; rfl
 have e3 : IntKind.i64.wrap (st.r.su * 16) = 16 * st.r.su := by { have := ok.s0; have := ok.s1; rw [wraps64 _ (by omega) (by omega)]; omega }
 have e4 : IntKind.u16.wrap (16 * st.r.su) = 16 * st.r.su := u16w (by have := ok.s0; omega) (by have := ok.s1; omega)
 have e5 : wrap64 (st.r.su * 16) = 16 * st.r.su := by { have := ok.s0; have := ok.s1; unfold wrap64; omega }
 unfold St.chan
 rw [hk]
 have hu0 := Tryz.underlying124
 have hu1 := Tryz.underlying26
 have hu2 := Tryz.underlying34
 have hu3 := Tryz.underlying103
 have hu4 := Tryz.underlying29
 go_enter Tryz.func139, Tryz.ntmps139
 rw [hk] at x21
 go_wp2
 go_ret
 exact ⟨rfl, HR.out⟩
theorem chan_d (h : c.P n st w) (ok : st.r.Ok) (k0 : 0 ≤ st.k) (h1 : st.k ≠ 1) (h2 : st.k ≠ 2) (h7 : st.k ≠ 7) : Calls Tryz.prog 139 #[.pointer (some ⟨c.p, 0, none⟩)] w fun e w' => e = .returned (.int .u16 (st.chan c.v)) ∧ c.P (n) (st) w' := by
 have HR := Aside0.mk h
 clear h
 have x21 := HR.out.c21
 have x20 := HR.out.c20
 have x19 := HR.out.c19
 have x18 := HR.out.c18
 have y1 : (st.k == 1) = false := by simpa using h1
 have y2 : (st.k == 2) = false := by simpa using h2
 have y7 : (st.k == 7) = false := by simpa using h7
 unfold St.chan
 rw [if_neg h1, if_neg h2, if_neg h7]
 have hu0 := Tryz.underlying124
 have hu1 := Tryz.underlying26
 have hu2 := Tryz.underlying34
 have hu3 := Tryz.underlying103
 have hu4 := Tryz.underlying29
 go_enter Tryz.func139, Tryz.ntmps139
 go_upto_region 8 with (fail)
 go_quiet ((go_at_call 187; exact dq_ (element_c _ (HR.out.view.below (pw_below_drewN (Below.refl _ _) _)).cc HR.out.view.bc HR.out.ok.h2 k0)))
 go_wp2
 go_ret
 exact ⟨rfl, HR.out.drawn ⟨⟨_, rfl⟩⟩⟩
theorem channel_c (h : c.P n st w) (ok : st.r.Ok) (k0 : 0 ≤ st.k) : Calls Tryz.prog 139 #[.pointer (some ⟨c.p, 0, none⟩)] w fun e w' => e = .returned (.int .u16 (st.chan c.v)) ∧ c.P n st w' := by
 by_cases h1 : st.k = 1
 · exact chan_1 h ok h1
 · by_cases h2 : st.k = 2
   · exact chan_2 h ok h2
   · by_cases h7 : st.k = 7
     · exact chan_7 h ok h7
     · exact chan_d h ok k0 h1 h2 h7
theorem next_1 (h : c.P n st w) (h0 : 0 ≤ st.sp.f1) (h1 : st.sp.f1 < 40000) (a : st.sp.f0 = 1) (b : st.sp.f1 + 1 = 2048) : Calls Tryz.prog 215 #[.pointer (some ⟨c.p, 0, none⟩)] w fun e w' => e = .returned (.agg #[.int .u8 st.sp.f0, .int .i64 (0)]) ∧ c.P (n) (st) w' := by
 have HR := Aside0.mk h
 clear h
 have HB := Aside0.mk (Below.refl w.heap.size w)
 have e0 : wrap64 (st.sp.f1 + 1) = st.sp.f1 + 1 := by unfold wrap64; omega
 have y0 : (st.sp.f0 == 1) = true := by simpa using a
 have y1 : (st.sp.f1 + 1 == 2048) = true := by simpa using b
 clear a b
 have hu0 := Tryz.underlying124
 have hu1 := Tryz.underlying26
 have hu2 := Tryz.underlying34
 have hu3 := Tryz.underlying103
 have hu4 := Tryz.underlying29
 go_enter Tryz.func215, Tryz.ntmps215
 go_upto_region 2 with (first | (refine boxq_ 2 #[.int .u8 0, .int .i64 0] 103 ?_; intro g2 hg wb K hb; (try have NE2_2 := nkb_ K2 hg); (try have NE3_2 := nkb_ K3 hg); have L2 := lkb_ HB hg; (try replace K2 := kbb_ K2 hb); (try replace K3 := kbb_ K3 hb); replace HB := hbs_ HB hb; have K2 := Aside0.mk K; clear K hb hg; (try have x22 := (HR.out.below HB.out).c22); (try have x23 := (HR.out.below HB.out).c23)) | (refine boxq_ 3 #[.int .u8 0, .int .i64 0] 103 ?_; intro g3 hg wb K hb; (try have NE2_3 := nkb_ K2 hg); (try have NE3_3 := nkb_ K3 hg); have L3 := lkb_ HB hg; (try replace K2 := kbb_ K2 hb); (try replace K3 := kbb_ K3 hb); replace HB := hbs_ HB hb; have K3 := Aside0.mk K; clear K hb hg; (try have x22 := (HR.out.below HB.out).c22); (try have x23 := (HR.out.below HB.out).c23)) | (refine strq_ 103 3 7 g3 #[.int .u8 st.sp.f0, .int .i64 st.sp.f1] K3 ?_; intro ws hk hfar hbel hkp; replace HB := Aside0.mk (hbel _ _ HB.out L3.out); (try replace K2 := hfr_ hfar K2 (by first | exact NE2_3.out | exact NE3_2.out.symm)); (try replace K3 := hfr_ hfar K3 (by first | exact NE3_3.out | exact NE3_3.out.symm)); replace K3 := Aside0.mk hk; clear hk hfar hbel hkp))
 have z0 := (blk_cell K3.out 0).trans (show _ = some (.int .u8 st.sp.f0) from rfl)
 have z1 := (blk_cell K3.out 1).trans (show _ = some (.int .i64 st.sp.f1) from rfl)
 go_upto_region 3 with (first | (refine store_cell_ rfl _ _ _ rfl g3 1 rfl (.int .i64 (st.sp.f1 + 1)) rfl _ ((blk_cell K3.out 1).trans rfl) (blk_frozen K3.out 1) rfl rfl ?hi ?_; (case hi => kernel_rfl); replace HB := Aside0.mk (below_set (j := 1) (v := .int .i64 (st.sp.f1 + 1)) HB.out L3.out); replace K2 := Aside0.mk (blk_far (p := ⟨g3, 1, none⟩) K2.out NE2_3.out (.int .i64 (st.sp.f1 + 1))); replace K3 := Aside0.mk (blk_set K3.out 1 (.int .i64 (st.sp.f1 + 1))); generalize World.setCell _ _ _ = ws at HB K2 K3 ⊢))
 clear z0 z1
 have z0 := (blk_cell K3.out 0).trans (show _ = some (.int .u8 st.sp.f0) from rfl)
 have z1 := (blk_cell K3.out 1).trans (show _ = some (.int .i64 (st.sp.f1 + 1)) from rfl)
 go_upto_region 5 with (first | (refine store_cell_ rfl _ _ _ rfl g3 1 rfl (.int .i64 (0)) rfl _ ((blk_cell K3.out 1).trans rfl) (blk_frozen K3.out 1) rfl rfl ?hi ?_; (case hi => kernel_rfl); replace HB := Aside0.mk (below_set (j := 1) (v := .int .i64 (0)) HB.out L3.out); replace K2 := Aside0.mk (blk_far (p := ⟨g3, 1, none⟩) K2.out NE2_3.out (.int .i64 (0))); replace K3 := Aside0.mk (blk_set K3.out 1 (.int .i64 (0))); generalize World.setCell _ _ _ = ws at HB K2 K3 ⊢))
 clear z0 z1
 have z0 := (blk_cell K3.out 0).trans (show _ = some (.int .u8 st.sp.f0) from rfl)
 have z1 := (blk_cell K3.out 1).trans (show _ = some (.int .i64 0) from rfl)
 go_wp2_with (first | (refine strq_ 103 2 26 g2 #[.int .u8 st.sp.f0, .int .i64 (0)] K2 ?_; intro ws hk hfar hbel hkp; replace HB := Aside0.mk (hbel _ _ HB.out L2.out); (try replace K2 := hfr_ hfar K2 (by first | exact NE2_2.out | exact NE2_2.out.symm)); (try replace K3 := hfr_ hfar K3 (by first | exact NE3_2.out | exact NE2_3.out.symm)); replace K2 := Aside0.mk hk; clear hk hfar hbel hkp))
 refine bodyPost_ret (results_cell_row rfl _ _ g2 103 #[.int .u8 st.sp.f0, .int .i64 (0)] (0, 0) _ rfl K2.out Tryz.underlying103 rfl (by kernel_rfl)) rfl ⟨rfl, HR.out.below HB.out⟩
theorem next_2 (h : c.P n st w) (h0 : 0 ≤ st.sp.f1) (h1 : st.sp.f1 < 40000) (a : st.sp.f0 = 1) (b : st.sp.f1 + 1 ≠ 2048) (d : st.sp.f1 + 1 = 36864) : Calls Tryz.prog 215 #[.pointer (some ⟨c.p, 0, none⟩)] w fun e w' => e = .returned (.agg #[.int .u8 st.sp.f0, .int .i64 (0)]) ∧ c.P (n) (st) w' := by
 have HR := Aside0.mk h
 clear h
 have HB := Aside0.mk (Below.refl w.heap.size w)
 have e0 : wrap64 (st.sp.f1 + 1) = st.sp.f1 + 1 := by unfold wrap64; omega
 have y0 : (st.sp.f0 == 1) = true := by simpa using a
 have y1 : (st.sp.f1 + 1 == 2048) = false := by simpa using b
 have y2 : (st.sp.f1 + 1 == 36864) = true := by simpa using d
 clear a b d
 have hu0 := Tryz.underlying124
 have hu1 := Tryz.underlying26
 have hu2 := Tryz.underlying34
 have hu3 := Tryz.underlying103
 have hu4 := Tryz.underlying29
 go_enter Tryz.func215, Tryz.ntmps215
 go_upto_region 2 with (first | (refine boxq_ 2 #[.int .u8 0, .int .i64 0] 103 ?_; intro g2 hg wb K hb; (try have NE2_2 := nkb_ K2 hg); (try have NE3_2 := nkb_ K3 hg); have L2 := lkb_ HB hg; (try replace K2 := kbb_ K2 hb); (try replace K3 := kbb_ K3 hb); replace HB := hbs_ HB hb; have K2 := Aside0.mk K; clear K hb hg; (try have x22 := (HR.out.below HB.out).c22); (try have x23 := (HR.out.below HB.out).c23)) | (refine boxq_ 3 #[.int .u8 0, .int .i64 0] 103 ?_; intro g3 hg wb K hb; (try have NE2_3 := nkb_ K2 hg); (try have NE3_3 := nkb_ K3 hg); have L3 := lkb_ HB hg; (try replace K2 := kbb_ K2 hb); (try replace K3 := kbb_ K3 hb); replace HB := hbs_ HB hb; have K3 := Aside0.mk K; clear K hb hg; (try have x22 := (HR.out.below HB.out).c22); (try have x23 := (HR.out.below HB.out).c23)) | (refine strq_ 103 3 7 g3 #[.int .u8 st.sp.f0, .int .i64 st.sp.f1] K3 ?_; intro ws hk hfar hbel hkp; replace HB := Aside0.mk (hbel _ _ HB.out L3.out); (try replace K2 := hfr_ hfar K2 (by first | exact NE2_3.out | exact NE3_2.out.symm)); (try replace K3 := hfr_ hfar K3 (by first | exact NE3_3.out | exact NE3_3.out.symm)); replace K3 := Aside0.mk hk; clear hk hfar hbel hkp))
 have z0 := (blk_cell K3.out 0).trans (show _ = some (.int .u8 st.sp.f0) from rfl)
 have z1 := (blk_cell K3.out 1).trans (show _ = some (.int .i64 st.sp.f1) from rfl)
 go_upto_region 3 with (first | (refine store_cell_ rfl _ _ _ rfl g3 1 rfl (.int .i64 (st.sp.f1 + 1)) rfl _ ((blk_cell K3.out 1).trans rfl) (blk_frozen K3.out 1) rfl rfl ?hi ?_; (case hi => kernel_rfl); replace HB := Aside0.mk (below_set (j := 1) (v := .int .i64 (st.sp.f1 + 1)) HB.out L3.out); replace K2 := Aside0.mk (blk_far (p := ⟨g3, 1, none⟩) K2.out NE2_3.out (.int .i64 (st.sp.f1 + 1))); replace K3 := Aside0.mk (blk_set K3.out 1 (.int .i64 (st.sp.f1 + 1))); generalize World.setCell _ _ _ = ws at HB K2 K3 ⊢))
 clear z0 z1
 have z0 := (blk_cell K3.out 0).trans (show _ = some (.int .u8 st.sp.f0) from rfl)
 have z1 := (blk_cell K3.out 1).trans (show _ = some (.int .i64 (st.sp.f1 + 1)) from rfl)
 go_upto_region 5 with (first | (refine store_cell_ rfl _ _ _ rfl g3 1 rfl (.int .i64 (0)) rfl _ ((blk_cell K3.out 1).trans rfl) (blk_frozen K3.out 1) rfl rfl ?hi ?_; (case hi => kernel_rfl); replace HB := Aside0.mk (below_set (j := 1) (v := .int .i64 (0)) HB.out L3.out); replace K2 := Aside0.mk (blk_far (p := ⟨g3, 1, none⟩) K2.out NE2_3.out (.int .i64 (0))); replace K3 := Aside0.mk (blk_set K3.out 1 (.int .i64 (0))); generalize World.setCell _ _ _ = ws at HB K2 K3 ⊢))
 clear z0 z1
 have z0 := (blk_cell K3.out 0).trans (show _ = some (.int .u8 st.sp.f0) from rfl)
 have z1 := (blk_cell K3.out 1).trans (show _ = some (.int .i64 0) from rfl)
 go_wp2_with (first | (refine strq_ 103 2 26 g2 #[.int .u8 st.sp.f0, .int .i64 (0)] K2 ?_; intro ws hk hfar hbel hkp; replace HB := Aside0.mk (hbel _ _ HB.out L2.out); (try replace K2 := hfr_ hfar K2 (by first | exact NE2_2.out | exact NE2_2.out.symm)); (try replace K3 := hfr_ hfar K3 (by first | exact NE3_2.out | exact NE2_3.out.symm)); replace K2 := Aside0.mk hk; clear hk hfar hbel hkp))
 refine bodyPost_ret (results_cell_row rfl _ _ g2 103 #[.int .u8 st.sp.f0, .int .i64 (0)] (0, 0) _ rfl K2.out Tryz.underlying103 rfl (by kernel_rfl)) rfl ⟨rfl, HR.out.below HB.out⟩
theorem next_3 (h : c.P n st w) (h0 : 0 ≤ st.sp.f1) (h1 : st.sp.f1 < 40000) (a : st.sp.f0 = 1) (b : st.sp.f1 + 1 ≠ 2048) (d : st.sp.f1 + 1 ≠ 36864) : Calls Tryz.prog 215 #[.pointer (some ⟨c.p, 0, none⟩)] w fun e w' => e = .returned (.agg #[.int .u8 st.sp.f0, .int .i64 (st.sp.f1 + 1)]) ∧ c.P (n) (st) w' := by
 have HR := Aside0.mk h
 clear h
 have HB := Aside0.mk (Below.refl w.heap.size w)
 have e0 : wrap64 (st.sp.f1 + 1) = st.sp.f1 + 1 := by unfold wrap64; omega
 have y0 : (st.sp.f0 == 1) = true := by simpa using a
 have y1 : (st.sp.f1 + 1 == 2048) = false := by simpa using b
 have y2 : (st.sp.f1 + 1 == 36864) = false := by simpa using d
 clear a b d
 have hu0 := Tryz.underlying124
 have hu1 := Tryz.underlying26
 have hu2 := Tryz.underlying34
 have hu3 := Tryz.underlying103
 have hu4 := Tryz.underlying29
 go_enter Tryz.func215, Tryz.ntmps215
 go_upto_region 2 with (first | (refine boxq_ 2 #[.int .u8 0, .int .i64 0] 103 ?_; intro g2 hg wb K hb; (try have NE2_2 := nkb_ K2 hg); (try have NE3_2 := nkb_ K3 hg); have L2 := lkb_ HB hg; (try replace K2 := kbb_ K2 hb); (try replace K3 := kbb_ K3 hb); replace HB := hbs_ HB hb; have K2 := Aside0.mk K; clear K hb hg; (try have x22 := (HR.out.below HB.out).c22); (try have x23 := (HR.out.below HB.out).c23)) | (refine boxq_ 3 #[.int .u8 0, .int .i64 0] 103 ?_; intro g3 hg wb K hb; (try have NE2_3 := nkb_ K2 hg); (try have NE3_3 := nkb_ K3 hg); have L3 := lkb_ HB hg; (try replace K2 := kbb_ K2 hb); (try replace K3 := kbb_ K3 hb); replace HB := hbs_ HB hb; have K3 := Aside0.mk K; clear K hb hg; (try have x22 := (HR.out.below HB.out).c22); (try have x23 := (HR.out.below HB.out).c23)) | (refine strq_ 103 3 7 g3 #[.int .u8 st.sp.f0, .int .i64 st.sp.f1] K3 ?_; intro ws hk hfar hbel hkp; replace HB := Aside0.mk (hbel _ _ HB.out L3.out); (try replace K2 := hfr_ hfar K2 (by first | exact NE2_3.out | exact NE3_2.out.symm)); (try replace K3 := hfr_ hfar K3 (by first | exact NE3_3.out | exact NE3_3.out.symm)); replace K3 := Aside0.mk hk; clear hk hfar hbel hkp))
 have z0 := (blk_cell K3.out 0).trans (show _ = some (.int .u8 st.sp.f0) from rfl)
 have z1 := (blk_cell K3.out 1).trans (show _ = some (.int .i64 st.sp.f1) from rfl)
 go_upto_region 3 with (first | (refine store_cell_ rfl _ _ _ rfl g3 1 rfl (.int .i64 (st.sp.f1 + 1)) rfl _ ((blk_cell K3.out 1).trans rfl) (blk_frozen K3.out 1) rfl rfl ?hi ?_; (case hi => kernel_rfl); replace HB := Aside0.mk (below_set (j := 1) (v := .int .i64 (st.sp.f1 + 1)) HB.out L3.out); replace K2 := Aside0.mk (blk_far (p := ⟨g3, 1, none⟩) K2.out NE2_3.out (.int .i64 (st.sp.f1 + 1))); replace K3 := Aside0.mk (blk_set K3.out 1 (.int .i64 (st.sp.f1 + 1))); generalize World.setCell _ _ _ = ws at HB K2 K3 ⊢))
 clear z0 z1
 have z0 := (blk_cell K3.out 0).trans (show _ = some (.int .u8 st.sp.f0) from rfl)
 have z1 := (blk_cell K3.out 1).trans (show _ = some (.int .i64 (st.sp.f1 + 1)) from rfl)
 go_wp2_with (first | (refine strq_ 103 2 26 g2 #[.int .u8 st.sp.f0, .int .i64 (st.sp.f1 + 1)] K2 ?_; intro ws hk hfar hbel hkp; replace HB := Aside0.mk (hbel _ _ HB.out L2.out); (try replace K2 := hfr_ hfar K2 (by first | exact NE2_2.out | exact NE2_2.out.symm)); (try replace K3 := hfr_ hfar K3 (by first | exact NE3_2.out | exact NE2_3.out.symm)); replace K2 := Aside0.mk hk; clear hk hfar hbel hkp))
 refine bodyPost_ret (results_cell_row rfl _ _ g2 103 #[.int .u8 st.sp.f0, .int .i64 (st.sp.f1 + 1)] (0, 0) _ rfl K2.out Tryz.underlying103 rfl (by kernel_rfl)) rfl ⟨rfl, HR.out.below HB.out⟩
theorem next_4 (h : c.P n st w) (h0 : 0 ≤ st.sp.f1) (h1 : st.sp.f1 < 40000) (a : st.sp.f0 ≠ 1) (d : st.sp.f1 + 1 = 36864) : Calls Tryz.prog 215 #[.pointer (some ⟨c.p, 0, none⟩)] w fun e w' => e = .returned (.agg #[.int .u8 st.sp.f0, .int .i64 (0)]) ∧ c.P (n) (st) w' := by
 have HR := Aside0.mk h
 clear h
 have HB := Aside0.mk (Below.refl w.heap.size w)
 have e0 : wrap64 (st.sp.f1 + 1) = st.sp.f1 + 1 := by unfold wrap64; omega
 have y0 : (st.sp.f0 == 1) = false := by simpa using a
 have y1 : (st.sp.f1 + 1 == 36864) = true := by simpa using d
 clear a d
 have hu0 := Tryz.underlying124
 have hu1 := Tryz.underlying26
 have hu2 := Tryz.underlying34
 have hu3 := Tryz.underlying103
 have hu4 := Tryz.underlying29
 go_enter Tryz.func215, Tryz.ntmps215
 go_upto_region 2 with (first | (refine boxq_ 2 #[.int .u8 0, .int .i64 0] 103 ?_; intro g2 hg wb K hb; (try have NE2_2 := nkb_ K2 hg); (try have NE3_2 := nkb_ K3 hg); have L2 := lkb_ HB hg; (try replace K2 := kbb_ K2 hb); (try replace K3 := kbb_ K3 hb); replace HB := hbs_ HB hb; have K2 := Aside0.mk K; clear K hb hg; (try have x22 := (HR.out.below HB.out).c22); (try have x23 := (HR.out.below HB.out).c23)) | (refine boxq_ 3 #[.int .u8 0, .int .i64 0] 103 ?_; intro g3 hg wb K hb; (try have NE2_3 := nkb_ K2 hg); (try have NE3_3 := nkb_ K3 hg); have L3 := lkb_ HB hg; (try replace K2 := kbb_ K2 hb); (try replace K3 := kbb_ K3 hb); replace HB := hbs_ HB hb; have K3 := Aside0.mk K; clear K hb hg; (try have x22 := (HR.out.below HB.out).c22); (try have x23 := (HR.out.below HB.out).c23)) | (refine strq_ 103 3 7 g3 #[.int .u8 st.sp.f0, .int .i64 st.sp.f1] K3 ?_; intro ws hk hfar hbel hkp; replace HB := Aside0.mk (hbel _ _ HB.out L3.out); (try replace K2 := hfr_ hfar K2 (by first | exact NE2_3.out | exact NE3_2.out.symm)); (try replace K3 := hfr_ hfar K3 (by first | exact NE3_3.out | exact NE3_3.out.symm)); replace K3 := Aside0.mk hk; clear hk hfar hbel hkp))
 have z0 := (blk_cell K3.out 0).trans (show _ = some (.int .u8 st.sp.f0) from rfl)
 have z1 := (blk_cell K3.out 1).trans (show _ = some (.int .i64 st.sp.f1) from rfl)
 go_upto_region 3 with (first | (refine store_cell_ rfl _ _ _ rfl g3 1 rfl (.int .i64 (st.sp.f1 + 1)) rfl _ ((blk_cell K3.out 1).trans rfl) (blk_frozen K3.out 1) rfl rfl ?hi ?_; (case hi => kernel_rfl); replace HB := Aside0.mk (below_set (j := 1) (v := .int .i64 (st.sp.f1 + 1)) HB.out L3.out); replace K2 := Aside0.mk (blk_far (p := ⟨g3, 1, none⟩) K2.out NE2_3.out (.int .i64 (st.sp.f1 + 1))); replace K3 := Aside0.mk (blk_set K3.out 1 (.int .i64 (st.sp.f1 + 1))); generalize World.setCell _ _ _ = ws at HB K2 K3 ⊢))
 clear z0 z1
 have z0 := (blk_cell K3.out 0).trans (show _ = some (.int .u8 st.sp.f0) from rfl)
 have z1 := (blk_cell K3.out 1).trans (show _ = some (.int .i64 (st.sp.f1 + 1)) from rfl)
 go_upto_region 5 with (first | (refine store_cell_ rfl _ _ _ rfl g3 1 rfl (.int .i64 (0)) rfl _ ((blk_cell K3.out 1).trans rfl) (blk_frozen K3.out 1) rfl rfl ?hi ?_; (case hi => kernel_rfl); replace HB := Aside0.mk (below_set (j := 1) (v := .int .i64 (0)) HB.out L3.out); replace K2 := Aside0.mk (blk_far (p := ⟨g3, 1, none⟩) K2.out NE2_3.out (.int .i64 (0))); replace K3 := Aside0.mk (blk_set K3.out 1 (.int .i64 (0))); generalize World.setCell _ _ _ = ws at HB K2 K3 ⊢))
 clear z0 z1
 have z0 := (blk_cell K3.out 0).trans (show _ = some (.int .u8 st.sp.f0) from rfl)
 have z1 := (blk_cell K3.out 1).trans (show _ = some (.int .i64 0) from rfl)
 go_wp2_with (first | (refine strq_ 103 2 26 g2 #[.int .u8 st.sp.f0, .int .i64 (0)] K2 ?_; intro ws hk hfar hbel hkp; replace HB := Aside0.mk (hbel _ _ HB.out L2.out); (try replace K2 := hfr_ hfar K2 (by first | exact NE2_2.out | exact NE2_2.out.symm)); (try replace K3 := hfr_ hfar K3 (by first | exact NE3_2.out | exact NE2_3.out.symm)); replace K2 := Aside0.mk hk; clear hk hfar hbel hkp))
 refine bodyPost_ret (results_cell_row rfl _ _ g2 103 #[.int .u8 st.sp.f0, .int .i64 (0)] (0, 0) _ rfl K2.out Tryz.underlying103 rfl (by kernel_rfl)) rfl ⟨rfl, HR.out.below HB.out⟩
theorem next_5 (h : c.P n st w) (h0 : 0 ≤ st.sp.f1) (h1 : st.sp.f1 < 40000) (a : st.sp.f0 ≠ 1) (d : st.sp.f1 + 1 ≠ 36864) : Calls Tryz.prog 215 #[.pointer (some ⟨c.p, 0, none⟩)] w fun e w' => e = .returned (.agg #[.int .u8 st.sp.f0, .int .i64 (st.sp.f1 + 1)]) ∧ c.P (n) (st) w' := by
 have HR := Aside0.mk h
 clear h
 have HB := Aside0.mk (Below.refl w.heap.size w)
 have e0 : wrap64 (st.sp.f1 + 1) = st.sp.f1 + 1 := by unfold wrap64; omega
 have y0 : (st.sp.f0 == 1) = false := by simpa using a
 have y1 : (st.sp.f1 + 1 == 36864) = false := by simpa using d
 clear a d
 have hu0 := Tryz.underlying124
 have hu1 := Tryz.underlying26
 have hu2 := Tryz.underlying34
 have hu3 := Tryz.underlying103
 have hu4 := Tryz.underlying29
 go_enter Tryz.func215, Tryz.ntmps215
 go_upto_region 2 with (first | (refine boxq_ 2 #[.int .u8 0, .int .i64 0] 103 ?_; intro g2 hg wb K hb; (try have NE2_2 := nkb_ K2 hg); (try have NE3_2 := nkb_ K3 hg); have L2 := lkb_ HB hg; (try replace K2 := kbb_ K2 hb); (try replace K3 := kbb_ K3 hb); replace HB := hbs_ HB hb; have K2 := Aside0.mk K; clear K hb hg; (try have x22 := (HR.out.below HB.out).c22); (try have x23 := (HR.out.below HB.out).c23)) | (refine boxq_ 3 #[.int .u8 0, .int .i64 0] 103 ?_; intro g3 hg wb K hb; (try have NE2_3 := nkb_ K2 hg); (try have NE3_3 := nkb_ K3 hg); have L3 := lkb_ HB hg; (try replace K2 := kbb_ K2 hb); (try replace K3 := kbb_ K3 hb); replace HB := hbs_ HB hb; have K3 := Aside0.mk K; clear K hb hg; (try have x22 := (HR.out.below HB.out).c22); (try have x23 := (HR.out.below HB.out).c23)) | (refine strq_ 103 3 7 g3 #[.int .u8 st.sp.f0, .int .i64 st.sp.f1] K3 ?_; intro ws hk hfar hbel hkp; replace HB := Aside0.mk (hbel _ _ HB.out L3.out); (try replace K2 := hfr_ hfar K2 (by first | exact NE2_3.out | exact NE3_2.out.symm)); (try replace K3 := hfr_ hfar K3 (by first | exact NE3_3.out | exact NE3_3.out.symm)); replace K3 := Aside0.mk hk; clear hk hfar hbel hkp))
 have z0 := (blk_cell K3.out 0).trans (show _ = some (.int .u8 st.sp.f0) from rfl)
 have z1 := (blk_cell K3.out 1).trans (show _ = some (.int .i64 st.sp.f1) from rfl)
 go_upto_region 3 with (first | (refine store_cell_ rfl _ _ _ rfl g3 1 rfl (.int .i64 (st.sp.f1 + 1)) rfl _ ((blk_cell K3.out 1).trans rfl) (blk_frozen K3.out 1) rfl rfl ?hi ?_; (case hi => kernel_rfl); replace HB := Aside0.mk (below_set (j := 1) (v := .int .i64 (st.sp.f1 + 1)) HB.out L3.out); replace K2 := Aside0.mk (blk_far (p := ⟨g3, 1, none⟩) K2.out NE2_3.out (.int .i64 (st.sp.f1 + 1))); replace K3 := Aside0.mk (blk_set K3.out 1 (.int .i64 (st.sp.f1 + 1))); generalize World.setCell _ _ _ = ws at HB K2 K3 ⊢))
 clear z0 z1
 have z0 := (blk_cell K3.out 0).trans (show _ = some (.int .u8 st.sp.f0) from rfl)
 have z1 := (blk_cell K3.out 1).trans (show _ = some (.int .i64 (st.sp.f1 + 1)) from rfl)
 go_wp2_with (first | (refine strq_ 103 2 26 g2 #[.int .u8 st.sp.f0, .int .i64 (st.sp.f1 + 1)] K2 ?_; intro ws hk hfar hbel hkp; replace HB := Aside0.mk (hbel _ _ HB.out L2.out); (try replace K2 := hfr_ hfar K2 (by first | exact NE2_2.out | exact NE2_2.out.symm)); (try replace K3 := hfr_ hfar K3 (by first | exact NE3_2.out | exact NE2_3.out.symm)); replace K2 := Aside0.mk hk; clear hk hfar hbel hkp))
 refine bodyPost_ret (results_cell_row rfl _ _ g2 103 #[.int .u8 st.sp.f0, .int .i64 (st.sp.f1 + 1)] (0, 0) _ rfl K2.out Tryz.underlying103 rfl (by kernel_rfl)) rfl ⟨rfl, HR.out.below HB.out⟩
theorem next_c (h : c.P n st w) (h0 : 0 ≤ st.sp.f1) (h1 : st.sp.f1 < 40000) : Calls Tryz.prog 215 #[.pointer (some ⟨c.p, 0, none⟩)] w fun e w' => e = .returned (.agg #[.int .u8 (nextSp st.sp).f0, .int .i64 (nextSp st.sp).f1]) ∧ c.P n st w' := by
 unfold nextSp
 by_cases a : st.sp.f0 = 1
 · by_cases b : st.sp.f1 + 1 = 2048
   · simp only [if_pos (show st.sp.f0 = 1 ∧ st.sp.f1 + 1 = 2048 ∨ st.sp.f1 + 1 = 36864 from Or.inl ⟨a, b⟩)]; exact next_1 h h0 h1 a b
   · by_cases d : st.sp.f1 + 1 = 36864
     · simp only [if_pos (show st.sp.f0 = 1 ∧ st.sp.f1 + 1 = 2048 ∨ st.sp.f1 + 1 = 36864 from Or.inr d)]; exact next_2 h h0 h1 a b d
     · simp only [if_neg (show ¬ (st.sp.f0 = 1 ∧ st.sp.f1 + 1 = 2048 ∨ st.sp.f1 + 1 = 36864) from fun x => x.elim (fun y => b y.2) d)]; exact next_3 h h0 h1 a b d
 · by_cases d : st.sp.f1 + 1 = 36864
   · simp only [if_pos (show st.sp.f0 = 1 ∧ st.sp.f1 + 1 = 2048 ∨ st.sp.f1 + 1 = 36864 from Or.inr d)]; exact next_4 h h0 h1 a d
   · simp only [if_neg (show ¬ (st.sp.f0 = 1 ∧ st.sp.f1 + 1 = 2048 ∨ st.sp.f1 + 1 = 36864) from fun x => x.elim (fun y => a y.1) d)]; exact next_5 h h0 h1 a d
end
end Go.Proofs.YtgbmaajfbbilhaaGreat.Cpu
end
section
namespace Go.Proofs.YtgbmaajfbbilhaaGreat.Cpu
open Go.RowKit Go.Proofs.YtgbmaajfbbilhaaGreat.PAll Go.Proofs.YtgbmaajfbbilhaaGreat.One Go.Proofs.YtgbmaajfbbilhaaGreat.Mem Go.Proofs.YtgbmaajfbbilhaaGreat.Row Go.Proofs.YtgbmaajfbbilhaaGreatW.PrintWords Go.Proofs.YtgbmaajfbbilhaaGreatW.PrintLast Go.Proofs.YtgbmaajfbbilhaaGreatW.PrintMore Go.Proofs.YtgbmaajfbbilhaaGreat.Plain
section
variable {c : Cx} {n : Nat} {st : St} {w : World}
theorem rdW_b {st : St} (ok : st.r.Ok) (v : Vw) : 0 ≤ rdW st v ∧ rdW st v < 65536 := by have := rdA_b ok v; have := cor_b (a := rdA st v) (by omega) (by omega); unfold rdW; omega
theorem rdW_b2 {st : St} (ok : st.r.Ok) (v : Vw) : rdW st v ≤ 32767 := by have := rdA_b ok v; have := cor_b (a := rdA st v) (by omega) (by omega); unfold rdW; omega
theorem extend_c (h : c.P n st w) : Calls Tryz.prog 107 #[.pointer (some ⟨c.g, 0, none⟩)] w fun e w' => e = .returned (.tuple #[]) ∧ c.P (n) ({ st with r := { st.r with ext := true } }) w' := by
 have HR := Aside0.mk h
 clear h
 have xb := HR.out.bx
 have hu0 := Tryz.underlying124
 have hu1 := Tryz.underlying26
 have hu2 := Tryz.underlying34
 have hu3 := Tryz.underlying103
 have hu4 := Tryz.underlying29
 go_enter Tryz.func107, Tryz.ntmps107
 go_wp2_with (first | (refine HR.out.e7 rfl _ _ _ rfl rfl _ rfl ?hi ?_; (case hi => kernel_rfl); intro wc hR; replace HR := Aside0.mk hR; clear hR))
 first | (go_end0; exact ⟨rfl, HR.out⟩) | ((try simp only [Exit.inBlock, Exit.then]); refine bodyPost_ret (results_none rfl _ _ _) rfl ⟨rfl, HR.out⟩) | (go_ret; exact ⟨rfl, HR.out⟩)
theorem inhint_c (h : c.P n st w) : Calls Tryz.prog 108 #[.pointer (some ⟨c.g, 0, none⟩)] w fun e w' => e = .returned (.tuple #[]) ∧ c.P (n) ({ st with r := { st.r with inh := true } }) w' := by
 have HR := Aside0.mk h
 clear h
 have xb := HR.out.bx
 have hu0 := Tryz.underlying124
 have hu1 := Tryz.underlying26
 have hu2 := Tryz.underlying34
 have hu3 := Tryz.underlying103
 have hu4 := Tryz.underlying29
 go_enter Tryz.func108, Tryz.ntmps108
 go_wp2_with (first | (refine HR.out.e11 rfl _ _ _ rfl rfl _ rfl ?hi ?_; (case hi => kernel_rfl); intro wc hR; replace HR := Aside0.mk hR; clear hR))
 first | (go_end0; exact ⟨rfl, HR.out⟩) | ((try simp only [Exit.inBlock, Exit.then]); refine bodyPost_ret (results_none rfl _ _ _) rfl ⟨rfl, HR.out⟩) | (go_ret; exact ⟨rfl, HR.out⟩)
theorem relint_c (h : c.P n st w) : Calls Tryz.prog 109 #[.pointer (some ⟨c.g, 0, none⟩)] w fun e w' => e = .returned (.tuple #[]) ∧ c.P (n) ({ st with r := { st.r with inh := false } }) w' := by
 have HR := Aside0.mk h
 clear h
 have xb := HR.out.bx
 have hu0 := Tryz.underlying124
 have hu1 := Tryz.underlying26
 have hu2 := Tryz.underlying34
 have hu3 := Tryz.underlying103
 have hu4 := Tryz.underlying29
 go_enter Tryz.func109, Tryz.ntmps109
 go_wp2_with (first | (refine HR.out.e11 rfl _ _ _ rfl rfl _ rfl ?hi ?_; (case hi => kernel_rfl); intro wc hR; replace HR := Aside0.mk hR; clear hR))
 first | (go_end0; exact ⟨rfl, HR.out⟩) | ((try simp only [Exit.inBlock, Exit.then]); refine bodyPost_ret (results_none rfl _ _ _) rfl ⟨rfl, HR.out⟩) | (go_ret; exact ⟨rfl, HR.out⟩)
theorem ccs_c (h : c.P n st w) (ok : st.r.Ok) (h0 : 0 ≤ st.sp.f1) (hn : n ≤ 80) : Calls Tryz.prog 110 #[.pointer (some ⟨c.p, 0, none⟩)] w fun e w' => e = .returned (.tuple #[]) ∧ c.P (n + 1) (xCcs st c.v) w' := by
 have HR := Aside0.mk h
 clear h
 have hu0 := Tryz.underlying124
 have hu1 := Tryz.underlying26
 have hu2 := Tryz.underlying34
 have hu3 := Tryz.underlying103
 have hu4 := Tryz.underlying29
 go_enter Tryz.func110, Tryz.ntmps110
 go_wp2_with (first | (go_at_call 118; (with_reducible refine at_args #[.pointer (some ⟨c.p, 0, none⟩)] ?_); (with_reducible refine (read_c HR.out ok h0 (by omega)).mono ?_); rintro e wc ⟨rfl, hR⟩; replace HR := Aside0.mk hR; clear hR) | (go_at_call 211; (with_reducible refine at_args #[.int .u16 (rdA st c.v)] ?_); (with_reducible refine (dim_c _ (rdA_b ok c.v).1 (rdA_b ok c.v).2 _).mono ?_); rintro e wc ⟨rfl, hd⟩; replace HR := Aside0.mk (HR.out.drawn hd); clear hd) | (go_at_call 213; (with_reducible refine at_args #[.int .u16 (rdA st c.v)] ?_); (with_reducible refine (cls_c _ (rdA_b ok c.v).1 (rdA_b ok c.v).2 _).mono ?_); rintro e wc ⟨rfl, hd⟩; replace HR := Aside0.mk (HR.out.drawn hd); clear hd) | (refine HR.out.e0 rfl _ _ _ rfl rfl _ rfl ?hi ?_; (case hi => kernel_rfl); intro wc hR; replace HR := Aside0.mk hR; clear hR) | (go_at_call 212; (with_reducible refine at_args #[.pointer (some ⟨c.p, 0, none⟩), .int .i64 (clsI (rdA st c.v))] ?_); (with_reducible refine (skip_c HR.out _ ok.z0 ok.z1 (cls_b _).1 (cls_b _).2).mono ?_); rintro e wc ⟨rfl, hR⟩; replace HR := Aside0.mk hR; clear hR))
 first | (go_end0; exact ⟨rfl, HR.out⟩) | ((try simp only [Exit.inBlock, Exit.then]); refine bodyPost_ret (results_none rfl _ _ _) rfl ⟨rfl, HR.out⟩) | (go_ret; exact ⟨rfl, HR.out⟩)
theorem ca_c (h : c.P n st w) (ok : st.r.Ok) (h0 : 0 ≤ st.sp.f1) (hn : n ≤ 80) : Calls Tryz.prog 117 #[.pointer (some ⟨c.g, 0, none⟩)] w fun e w' => e = .returned (.tuple #[]) ∧ c.P (n + 1) ((st.rd c.v).setA (rdA st c.v)) w' := by
 have HR := Aside0.mk h
 clear h
 have xb := HR.out.bx
 have hu0 := Tryz.underlying124
 have hu1 := Tryz.underlying26
 have hu2 := Tryz.underlying34
 have hu3 := Tryz.underlying103
 have hu4 := Tryz.underlying29
 go_enter Tryz.func117, Tryz.ntmps117
 replace HR := Aside0.mk HR.out.drew
 refine start_ (n := 7) (S := fun w' => w'.cell? ⟨c.g, 0, none⟩ = some (.pointer (some ⟨c.p, 0, none⟩))) (ds := [6]) #[false, false, false, false, false, false, false] (by kernel_rfl) rfl rfl (HR.out.bx) (fun hHeld => ?_)
 generalize w.drew = wd at HR hHeld ⊢
 refine tkq_ 0 (some 1) rfl rfl hHeld ?_
 refine tkq_ 1 (some 2) rfl rfl hHeld ?_
 refine onq_ 2 (some 3) rfl rfl (fun K hK => ?_)
 refine goq_ Tryz.func118 #[.pointer (some ⟨c.p, 0, none⟩)] ?_
 with_reducible refine (read_c HR.out ok h0 (by omega)).mono ?_
 rintro e wc ⟨rfl, hR⟩
 refine ⟨_, rfl, ?_⟩
 replace HR := Aside0.mk hR
 clear hR
 refine hK.out _ _ (HR.out.bx) (fun hHeld => ?_)
 clear hK K
 refine nmq_ (some 3) ?_
 refine pvq_ 3 (some 4) rfl rfl ?_
 refine pvq_ 4 (some 5) rfl rfl ?_
 refine pvq_ 5 (some 6) rfl rfl ?_
 refine laq_ 6 none rfl rfl (fun K hK => ?_)
 refine skip_ (w1 := World.setCell wc ⟨c.p, 0, none⟩ (.int .u16 (rdA st c.v))) (by rfl) rfl ?_ ?_
 · exact run_store_cell _ _ _ rfl c.p 0 rfl (.int .u16 (rdA st c.v)) rfl _ HR.out.c0 (HR.out.fz 0) rfl rfl (by kernel_rfl)
 replace HR := Aside0.mk (HR.out.s0 (rdA st c.v))
 generalize World.setCell _ _ _ = wc at HR ⊢
 refine hK.out _ _ ?_
 clear hK K
 refine done_ (by kernel_rfl) ?_
 go_wp2
 first | (go_end0; exact ⟨rfl, HR.out⟩) | ((try simp only [Exit.inBlock, Exit.then]); refine bodyPost_ret (results_none rfl _ _ _) rfl ⟨rfl, HR.out⟩) | (go_ret; exact ⟨rfl, HR.out⟩)
theorem cs_c (h : c.P n st w) (ok : st.r.Ok) (h0 : 0 ≤ st.sp.f1) (hn : n ≤ 80) : Calls Tryz.prog 119 #[.pointer (some ⟨c.g, 0, none⟩)] w fun e w' => e = .returned (.tuple #[]) ∧ c.P (n + 1) ((st.rd c.v).setA (negAccI (rdA st c.v))) w' := by
 have HR := Aside0.mk h
 clear h
 have xb := HR.out.bx
 have hu0 := Tryz.underlying124
 have hu1 := Tryz.underlying26
 have hu2 := Tryz.underlying34
 have hu3 := Tryz.underlying103
 have hu4 := Tryz.underlying29
 go_enter Tryz.func119, Tryz.ntmps119
 replace HR := Aside0.mk HR.out.drew
 refine start_ (n := 8) (S := fun w' => w'.cell? ⟨c.g, 0, none⟩ = some (.pointer (some ⟨c.p, 0, none⟩))) (ds := [7]) #[false, false, false, false, false, false, false, false] (by kernel_rfl) rfl rfl (HR.out.bx) (fun hHeld => ?_)
 generalize w.drew = wd at HR hHeld ⊢
 refine tkq_ 0 (some 1) rfl rfl hHeld ?_
 refine tkq_ 1 (some 2) rfl rfl hHeld ?_
 refine onq_ 2 (some 3) rfl rfl (fun K hK => ?_)
 refine goq_ Tryz.func118 #[.pointer (some ⟨c.p, 0, none⟩)] ?_
 with_reducible refine (read_c HR.out ok h0 (by omega)).mono ?_
 rintro e wc ⟨rfl, hR⟩
 refine ⟨_, rfl, ?_⟩
 replace HR := Aside0.mk hR
 clear hR
 refine hK.out _ _ (HR.out.bx) (fun hHeld => ?_)
 clear hK K
 refine nmq_ (some 3) ?_
 refine onq_ 3 (some 4) rfl rfl (fun K hK => ?_)
 refine goq_ Tryz.func120 #[.int .u16 (rdA st c.v)] ?_
 with_reducible refine (negAcc_c _ (rdA_b ok c.v).1 (rdA_b ok c.v).2 _).mono ?_
 rintro e wc ⟨rfl, hR⟩
 refine ⟨_, rfl, ?_⟩
 replace HR := Aside0.mk (HR.out.drawn hR)
 clear hR
 refine hK.out _ _ (HR.out.bx) (fun hHeld => ?_)
 clear hK K
 refine nmq_ (some 4) ?_
 refine pvq_ 4 (some 5) rfl rfl ?_
 refine pvq_ 5 (some 6) rfl rfl ?_
 refine pvq_ 6 (some 7) rfl rfl ?_
 refine laq_ 7 none rfl rfl (fun K hK => ?_)
 refine skip_ (w1 := World.setCell wc ⟨c.p, 0, none⟩ (.int .u16 (negAccI (rdA st c.v)))) (by rfl) rfl ?_ ?_
 · exact run_store_cell _ _ _ rfl c.p 0 rfl (.int .u16 (negAccI (rdA st c.v))) rfl _ HR.out.c0 (HR.out.fz 0) rfl rfl (by kernel_rfl)
 replace HR := Aside0.mk (HR.out.s0 (negAccI (rdA st c.v)))
 generalize World.setCell _ _ _ = wc at HR ⊢
 refine hK.out _ _ ?_
 clear hK K
 refine done_ (by kernel_rfl) ?_
 go_wp2
 first | (go_end0; exact ⟨rfl, HR.out⟩) | ((try simp only [Exit.inBlock, Exit.then]); refine bodyPost_ret (results_none rfl _ _ _) rfl ⟨rfl, HR.out⟩) | (go_ret; exact ⟨rfl, HR.out⟩)
theorem index_c (h : c.P n st w) (ok : st.r.Ok) (h0 : 0 ≤ st.sp.f1) (hn : n ≤ 80) : Calls Tryz.prog 121 #[.pointer (some ⟨c.g, 0, none⟩)] w fun e w' => e = .returned (.tuple #[]) ∧ c.P (n + 1) (xIndex st c.v) w' := by
 have HR := Aside0.mk h
 clear h
 have xb := HR.out.bx
 have hu0 := Tryz.underlying124
 have hu1 := Tryz.underlying26
 have hu2 := Tryz.underlying34
 have hu3 := Tryz.underlying103
 have hu4 := Tryz.underlying29
 go_enter Tryz.func121, Tryz.ntmps121
 replace HR := Aside0.mk HR.out.drew
 refine start_ (n := 7) (S := fun w' => w'.cell? ⟨c.g, 0, none⟩ = some (.pointer (some ⟨c.p, 0, none⟩))) (ds := [6]) #[false, false, false, false, false, false, false] (by kernel_rfl) rfl rfl (HR.out.bx) (fun hHeld => ?_)
 generalize w.drew = wd at HR hHeld ⊢
 refine tkq_ 0 (some 1) rfl rfl hHeld ?_
 refine tkq_ 1 (some 2) rfl rfl hHeld ?_
 refine onq_ 2 (some 3) rfl rfl (fun K hK => ?_)
 refine goq_ Tryz.func122 #[.pointer (some ⟨c.p, 0, none⟩)] ?_
 with_reducible refine (word_c HR.out ok h0 (by omega)).mono ?_
 rintro e wc ⟨rfl, hR⟩
 refine ⟨_, rfl, ?_⟩
 replace HR := Aside0.mk hR
 clear hR
 refine hK.out _ _ (HR.out.bx) (fun hHeld => ?_)
 clear hK K
 refine nmq_ (some 3) ?_
 refine pvq_ 3 (some 4) rfl rfl ?_
 refine pvq_ 4 (some 5) rfl rfl ?_
 refine pvq_ 5 (some 6) rfl rfl ?_
 refine laq_ 6 none rfl rfl (fun K hK => ?_)
 refine skip_ (w1 := World.setCell wc ⟨c.p, 8, none⟩ (.int .u16 (rdW st c.v))) (by rfl) rfl ?_ ?_
 · exact run_store_cell _ _ _ rfl c.p 8 rfl (.int .u16 (rdW st c.v)) rfl _ HR.out.c8 (HR.out.fz 8) rfl rfl (by kernel_rfl)
 replace HR := Aside0.mk (HR.out.s8 (rdW st c.v))
 generalize World.setCell _ _ _ = wc at HR ⊢
 refine hK.out _ _ ?_
 clear hK K
 refine done_ (by kernel_rfl) ?_
 go_wp2
 first | (go_end0; exact ⟨rfl, HR.out⟩) | ((try simp only [Exit.inBlock, Exit.then]); refine bodyPost_ret (results_none rfl _ _ _) rfl ⟨rfl, HR.out⟩) | (go_ret; exact ⟨rfl, HR.out⟩)
theorem ad_c (h : c.P n st w) (ok : st.r.Ok) (h0 : 0 ≤ st.sp.f1) (hn : n ≤ 80) : Calls Tryz.prog 128 #[.pointer (some ⟨c.g, 0, none⟩)] w fun e w' => e = .returned (.tuple #[]) ∧ c.P (n + 1) ((st.rd c.v).setA (addAccI st.r.a (rdA st c.v))) w' := by
 have HR := Aside0.mk h
 clear h
 have xb := HR.out.bx
 have hu0 := Tryz.underlying124
 have hu1 := Tryz.underlying26
 have hu2 := Tryz.underlying34
 have hu3 := Tryz.underlying103
 have hu4 := Tryz.underlying29
 go_enter Tryz.func128, Tryz.ntmps128
 replace HR := Aside0.mk HR.out.drew
 refine start_ (n := 13) (S := fun w' => w'.cell? ⟨c.g, 0, none⟩ = some (.pointer (some ⟨c.p, 0, none⟩)) ∧ w'.cell? ⟨c.p, 0, none⟩ = some (.int .u16 st.r.a)) (ds := [12]) #[false, false, false, false, false, false, false, false, false, false, false, false, false] (by kernel_rfl) rfl rfl ⟨HR.out.bx, HR.out.c0⟩ (fun hHeld => ?_)
 generalize w.drew = wd at HR hHeld ⊢
 refine tkq_ 0 (some 1) rfl rfl hHeld ?_
 refine tkq_ 1 (some 2) rfl rfl hHeld ?_
 refine pvq_ 2 (some 3) rfl rfl ?_
 refine pvq_ 3 (some 4) rfl rfl ?_
 refine pvq_ 4 (some 5) rfl rfl ?_
 refine tkq_ 5 (some 6) rfl rfl hHeld ?_
 refine tkq_ 6 (some 7) rfl rfl hHeld ?_
 refine onq_ 7 (some 8) rfl rfl (fun K hK => ?_)
 refine goq_ Tryz.func118 #[.pointer (some ⟨c.p, 0, none⟩)] ?_
 with_reducible refine (read_c HR.out ok h0 (by omega)).mono ?_
 rintro e wc ⟨rfl, hR⟩
 refine ⟨_, rfl, ?_⟩
 replace HR := Aside0.mk hR
 clear hR
 refine hK.out _ _ ⟨HR.out.bx, HR.out.c0⟩ (fun hHeld => ?_)
 clear hK K
 refine nmq_ (some 8) ?_
 refine onq_ 8 (some 9) rfl rfl (fun K hK => ?_)
 refine goq_ Tryz.func129 #[.int .u16 (st.r.a), .int .u16 (rdA st c.v)] ?_
 with_reducible refine (addAcc_c _ _ ok.a0 (by have := ok.a1; omega) (rdA_b ok c.v).1 (rdA_b ok c.v).2 _).mono ?_
 rintro e wc ⟨rfl, hR⟩
 refine ⟨_, rfl, ?_⟩
 replace HR := Aside0.mk (HR.out.drawn hR)
 clear hR
 refine hK.out _ _ ⟨HR.out.bx, HR.out.c0⟩ (fun hHeld => ?_)
 clear hK K
 refine nmq_ (some 9) ?_
 refine pvq_ 9 (some 10) rfl rfl ?_
 refine pvq_ 10 (some 11) rfl rfl ?_
 refine pvq_ 11 (some 12) rfl rfl ?_
 refine laq_ 12 none rfl rfl (fun K hK => ?_)
 refine skip_ (w1 := World.setCell wc ⟨c.p, 0, none⟩ (.int .u16 (addAccI st.r.a (rdA st c.v)))) (by rfl) rfl ?_ ?_
 · exact run_store_cell _ _ _ rfl c.p 0 rfl (.int .u16 (addAccI st.r.a (rdA st c.v))) rfl _ HR.out.c0 (HR.out.fz 0) rfl rfl (by kernel_rfl)
 replace HR := Aside0.mk (HR.out.s0 (addAccI st.r.a (rdA st c.v)))
 generalize World.setCell _ _ _ = wc at HR ⊢
 refine hK.out _ _ ?_
 clear hK K
 refine done_ (by kernel_rfl) ?_
 go_wp2
 first | (go_end0; exact ⟨rfl, HR.out⟩) | ((try simp only [Exit.inBlock, Exit.then]); refine bodyPost_ret (results_none rfl _ _ _) rfl ⟨rfl, HR.out⟩) | (go_ret; exact ⟨rfl, HR.out⟩)
theorem su_c (h : c.P n st w) (ok : st.r.Ok) (h0 : 0 ≤ st.sp.f1) (hn : n ≤ 80) : Calls Tryz.prog 130 #[.pointer (some ⟨c.g, 0, none⟩)] w fun e w' => e = .returned (.tuple #[]) ∧ c.P (n + 1) ((st.rd c.v).setA (addAccI st.r.a (negAccI (rdA st c.v)))) w' := by
 have HR := Aside0.mk h
 clear h
 have xb := HR.out.bx
 have hu0 := Tryz.underlying124
 have hu1 := Tryz.underlying26
 have hu2 := Tryz.underlying34
 have hu3 := Tryz.underlying103
 have hu4 := Tryz.underlying29
 go_enter Tryz.func130, Tryz.ntmps130
 replace HR := Aside0.mk HR.out.drew
 refine start_ (n := 14) (S := fun w' => w'.cell? ⟨c.g, 0, none⟩ = some (.pointer (some ⟨c.p, 0, none⟩)) ∧ w'.cell? ⟨c.p, 0, none⟩ = some (.int .u16 st.r.a)) (ds := [13]) #[false, false, false, false, false, false, false, false, false, false, false, false, false, false] (by kernel_rfl) rfl rfl ⟨HR.out.bx, HR.out.c0⟩ (fun hHeld => ?_)
 generalize w.drew = wd at HR hHeld ⊢
 refine tkq_ 0 (some 1) rfl rfl hHeld ?_
 refine tkq_ 1 (some 2) rfl rfl hHeld ?_
 refine pvq_ 2 (some 3) rfl rfl ?_
 refine pvq_ 3 (some 4) rfl rfl ?_
 refine pvq_ 4 (some 5) rfl rfl ?_
 refine tkq_ 5 (some 6) rfl rfl hHeld ?_
 refine tkq_ 6 (some 7) rfl rfl hHeld ?_
 refine onq_ 7 (some 8) rfl rfl (fun K hK => ?_)
 refine goq_ Tryz.func118 #[.pointer (some ⟨c.p, 0, none⟩)] ?_
 with_reducible refine (read_c HR.out ok h0 (by omega)).mono ?_
 rintro e wc ⟨rfl, hR⟩
 refine ⟨_, rfl, ?_⟩
 replace HR := Aside0.mk hR
 clear hR
 refine hK.out _ _ ⟨HR.out.bx, HR.out.c0⟩ (fun hHeld => ?_)
 clear hK K
 refine nmq_ (some 8) ?_
 refine onq_ 8 (some 9) rfl rfl (fun K hK => ?_)
 refine goq_ Tryz.func120 #[.int .u16 (rdA st c.v)] ?_
 with_reducible refine (negAcc_c _ (rdA_b ok c.v).1 (rdA_b ok c.v).2 _).mono ?_
 rintro e wc ⟨rfl, hR⟩
 refine ⟨_, rfl, ?_⟩
 replace HR := Aside0.mk (HR.out.drawn hR)
 clear hR
 refine hK.out _ _ ⟨HR.out.bx, HR.out.c0⟩ (fun hHeld => ?_)
 clear hK K
 refine nmq_ (some 9) ?_
 refine onq_ 9 (some 10) rfl rfl (fun K hK => ?_)
 refine goq_ Tryz.func129 #[.int .u16 (st.r.a), .int .u16 (negAccI (rdA st c.v))] ?_
 with_reducible refine (addAcc_c _ _ ok.a0 (by have := ok.a1; omega) (by have := rdA_b ok c.v; unfold negAccI; omega) (by have := rdA_b ok c.v; unfold negAccI; omega) _).mono ?_
 rintro e wc ⟨rfl, hR⟩
 refine ⟨_, rfl, ?_⟩
 replace HR := Aside0.mk (HR.out.drawn hR)
 clear hR
 refine hK.out _ _ ⟨HR.out.bx, HR.out.c0⟩ (fun hHeld => ?_)
 clear hK K
 refine nmq_ (some 10) ?_
 refine pvq_ 10 (some 11) rfl rfl ?_
 refine pvq_ 11 (some 12) rfl rfl ?_
 refine pvq_ 12 (some 13) rfl rfl ?_
 refine laq_ 13 none rfl rfl (fun K hK => ?_)
 refine skip_ (w1 := World.setCell wc ⟨c.p, 0, none⟩ (.int .u16 (addAccI st.r.a (negAccI (rdA st c.v))))) (by rfl) rfl ?_ ?_
 · exact run_store_cell _ _ _ rfl c.p 0 rfl (.int .u16 (addAccI st.r.a (negAccI (rdA st c.v)))) rfl _ HR.out.c0 (HR.out.fz 0) rfl rfl (by kernel_rfl)
 replace HR := Aside0.mk (HR.out.s0 (addAccI st.r.a (negAccI (rdA st c.v))))
 generalize World.setCell _ _ _ = wc at HR ⊢
 refine hK.out _ _ ?_
 clear hK K
 refine done_ (by kernel_rfl) ?_
 go_wp2
 first | (go_end0; exact ⟨rfl, HR.out⟩) | ((try simp only [Exit.inBlock, Exit.then]); refine bodyPost_ret (results_none rfl _ _ _) rfl ⟨rfl, HR.out⟩) | (go_ret; exact ⟨rfl, HR.out⟩)
theorem msu_c (h : c.P n st w) (ok : st.r.Ok) (h0 : 0 ≤ st.sp.f1) (hn : n ≤ 80) : Calls Tryz.prog 134 #[.pointer (some ⟨c.g, 0, none⟩)] w fun e w' => e = .returned (.tuple #[]) ∧ c.P (n + 1) ((st.rd c.v).setA (extI (tdI (corI st.r.a) (rdW st c.v)))) w' := by
 have HR := Aside0.mk h
 clear h
 have xb := HR.out.bx
 have hu0 := Tryz.underlying124
 have hu1 := Tryz.underlying26
 have hu2 := Tryz.underlying34
 have hu3 := Tryz.underlying103
 have hu4 := Tryz.underlying29
 go_enter Tryz.func134, Tryz.ntmps134
 replace HR := Aside0.mk HR.out.drew
 refine start_ (n := 7) (S := fun w' => w'.cell? ⟨c.g, 0, none⟩ = some (.pointer (some ⟨c.p, 0, none⟩))) (ds := []) #[false, false, false, false, false, false, false] (by kernel_rfl) rfl rfl (HR.out.bx) (fun hHeld => ?_)
 generalize w.drew = wd at HR hHeld ⊢
 refine tkq_ 0 (some 1) rfl rfl hHeld ?_
 refine tkq_ 1 (some 2) rfl rfl hHeld ?_
 refine tkq_ 3 (some 4) rfl rfl hHeld ?_
 refine onq_ 2 (some 3) rfl rfl (fun K hK => ?_)
 refine goq_ Tryz.func133 #[.pointer (some ⟨c.p, 0, none⟩)] ?_
 with_reducible refine (a_c HR.out ok).mono ?_
 rintro e wc ⟨rfl, hR⟩
 refine ⟨_, rfl, ?_⟩
 replace HR := Aside0.mk hR
 clear hR
 refine hK.out _ _ (HR.out.bx) (fun hHeld => ?_)
 clear hK K
 refine nmq_ (some 3) ?_
 refine onq_ 4 (some 5) rfl rfl (fun K hK => ?_)
 refine goq_ Tryz.func122 #[.pointer (some ⟨c.p, 0, none⟩)] ?_
 with_reducible refine (word_c HR.out ok h0 (by omega)).mono ?_
 rintro e wc ⟨rfl, hR⟩
 refine ⟨_, rfl, ?_⟩
 replace HR := Aside0.mk hR
 clear hR
 refine hK.out _ _ (HR.out.bx) (fun hHeld => ?_)
 clear hK K
 refine nmq_ (some 5) ?_
 refine onq_ 5 (some 6) rfl rfl (fun K hK => ?_)
 refine goq_ Tryz.func135 #[.int .u16 (corI st.r.a), .int .u16 (rdW st c.v)] ?_
 with_reducible refine (td_c _ _ (cor_b ok.a0 ok.a1).1 (by have := (cor_b ok.a0 ok.a1).2; omega) (rdW_b ok c.v).1 (rdW_b ok c.v).2 _).mono ?_
 rintro e wc ⟨rfl, hR⟩
 refine ⟨_, rfl, ?_⟩
 replace HR := Aside0.mk (HR.out.drawn hR)
 clear hR
 refine hK.out _ _ (HR.out.bx) (fun hHeld => ?_)
 clear hK K
 refine nmq_ (some 6) ?_
 refine onq_ 6 (some 7) rfl rfl (fun K hK => ?_)
 refine goq_ Tryz.func132 #[.pointer (some ⟨c.p, 0, none⟩), .int .u16 (tdI (corI st.r.a) (rdW st c.v))] ?_
 with_reducible refine (set_c HR.out _ (td_b _ _).1 (by have := (td_b (corI st.r.a) (rdW st c.v)).2; omega)).mono ?_
 rintro e wc ⟨rfl, hR⟩
 refine ⟨_, rfl, ?_⟩
 replace HR := Aside0.mk hR
 clear hR
 refine hK.out _ _ (HR.out.bx) (fun hHeld => ?_)
 clear hK K
 refine nmq_ (some 7) ?_
 refine done_ (by kernel_rfl) ?_
 go_wp2
 first | (go_end0; exact ⟨rfl, HR.out⟩) | ((try simp only [Exit.inBlock, Exit.then]); refine bodyPost_ret (results_none rfl _ _ _) rfl ⟨rfl, HR.out⟩) | (go_ret; exact ⟨rfl, HR.out⟩)
theorem xch_c (h : c.P n st w) (ok : st.r.Ok) (h0 : 0 ≤ st.sp.f1) (hn : n ≤ 80) : Calls Tryz.prog 127 #[.pointer (some ⟨c.p, 0, none⟩)] w fun e w' => e = .returned (.tuple #[]) ∧ c.P (n + 1 + 1) (xXch st c.v) w' := by
 have HR := Aside0.mk h
 clear h
 have hu0 := Tryz.underlying124
 have hu1 := Tryz.underlying26
 have hu2 := Tryz.underlying34
 have hu3 := Tryz.underlying103
 have hu4 := Tryz.underlying29
 go_enter Tryz.func127, Tryz.ntmps127
 go_upto_region 1 with (first | (go_at_call 118; (with_reducible refine at_args #[.pointer (some ⟨c.p, 0, none⟩)] ?_); (with_reducible refine (read_c HR.out ok h0 (by omega)).mono ?_); rintro e wc ⟨rfl, hR⟩; replace HR := Aside0.mk hR; clear hR))
 replace HR := Aside0.mk HR.out.drew
 refine start_ (n := 12) (S := fun w' => w'.cell? ⟨c.p, 23, none⟩ = some (.int .i64 st.sp.f1) ∧ w'.cell? ⟨c.p, 0, none⟩ = some (.int .u16 st.r.a)) (ds := [11]) #[false, false, false, false, false, false, false, false, false, false, false, false] (by kernel_rfl) rfl rfl ⟨HR.out.c23, HR.out.c0⟩ (fun hHeld => ?_)
 generalize wc.drew = wd at HR hHeld ⊢
 refine pvq_ 0 (some 5) rfl rfl ?_
 refine pvq_ 1 (some 6) rfl rfl ?_
 refine pvq_ 2 (some 7) rfl rfl ?_
 refine pvq_ 3 (some 8) rfl rfl ?_
 refine pvq_ 4 (some 9) rfl rfl ?_
 refine pvq_ 6 (some 11) rfl rfl ?_
 refine pvq_ 7 (some 12) rfl rfl ?_
 refine pvq_ 8 (some 13) rfl rfl ?_
 refine pvq_ 9 (some 14) rfl rfl ?_
 refine tkq_ 5 (some 10) rfl rfl hHeld ?_
 refine tkq_ 10 (some 15) rfl rfl hHeld ?_
 refine laq_ 11 (some 16) rfl rfl (fun K hK => ?_)
 refine goq_ Tryz.func217 #[.pointer (some ⟨c.p, 0, none⟩), .int .i64 st.sp.f1, .int .u16 (st.r.a)] ?_
 with_reducible refine (store_c HR.out _ (st.r.a) h0 ok.a0 ok.a1 (by omega)).mono ?_
 rintro e wc ⟨rfl, hR⟩
 refine ⟨_, rfl, ?_⟩
 replace HR := Aside0.mk hR
 clear hR
 refine hK.out _ _ ?_
 clear hK K
 refine nmq_ (some 16) ?_
 refine done_ (by kernel_rfl) ?_
 go_wp2_with (first | (refine HR.out.e0 rfl _ _ _ rfl rfl _ rfl ?hi ?_; (case hi => kernel_rfl); intro wc hR; replace HR := Aside0.mk hR; clear hR))
 first | (go_end0; exact ⟨rfl, HR.out⟩) | ((try simp only [Exit.inBlock, Exit.then]); refine bodyPost_ret (results_none rfl _ _ _) rfl ⟨rfl, HR.out⟩) | (go_ret; exact ⟨rfl, HR.out⟩)
theorem incr_c (h : c.P n st w) (ok : st.r.Ok) (h0 : 0 ≤ st.sp.f1) (hn : n ≤ 80) : Calls Tryz.prog 115 #[.pointer (some ⟨c.p, 0, none⟩)] w fun e w' => e = .returned (.tuple #[]) ∧ c.P (n + 1 + 1) (xIncr st c.v) w' := by
 have HR := Aside0.mk h
 clear h
 have hu0 := Tryz.underlying124
 have hu1 := Tryz.underlying26
 have hu2 := Tryz.underlying34
 have hu3 := Tryz.underlying103
 have hu4 := Tryz.underlying29
 go_enter Tryz.func115, Tryz.ntmps115
 replace HR := Aside0.mk HR.out.drew
 refine start_ (n := 10) (S := fun w' => w'.cell? ⟨c.p, 23, none⟩ = some (.int .i64 st.sp.f1)) (ds := [9]) #[false, false, false, false, false, false, false, false, false, false] (by kernel_rfl) rfl rfl (HR.out.c23) (fun hHeld => ?_)
 generalize w.drew = wd at HR hHeld ⊢
 refine pvq_ 0 (some 2) rfl rfl ?_
 refine pvq_ 1 (some 3) rfl rfl ?_
 refine pvq_ 2 (some 4) rfl rfl ?_
 refine pvq_ 3 (some 5) rfl rfl ?_
 refine pvq_ 4 (some 6) rfl rfl ?_
 refine pvq_ 6 (some 8) rfl rfl ?_
 refine tkq_ 5 (some 7) rfl rfl hHeld ?_
 refine onq_ 7 (some 9) rfl rfl (fun K hK => ?_)
 refine goq_ Tryz.func118 #[.pointer (some ⟨c.p, 0, none⟩)] ?_
 with_reducible refine (read_c HR.out ok h0 (by omega)).mono ?_
 rintro e wc ⟨rfl, hR⟩
 refine ⟨_, rfl, ?_⟩
 replace HR := Aside0.mk hR
 clear hR
 refine hK.out _ _ (HR.out.c23) (fun hHeld => ?_)
 clear hK K
 refine nmq_ (some 9) ?_
 refine onq_ 8 (some 10) rfl rfl (fun K hK => ?_)
 refine goq_ Tryz.func129 #[.int .u16 (rdA st c.v), .int .u16 (1)] ?_
 with_reducible refine (addAcc_c _ _ (rdA_b ok c.v).1 (rdA_b ok c.v).2 (by decide) (by decide) _).mono ?_
 rintro e wc ⟨rfl, hR⟩
 refine ⟨_, rfl, ?_⟩
 replace HR := Aside0.mk (HR.out.drawn hR)
 clear hR
 refine hK.out _ _ (HR.out.c23) (fun hHeld => ?_)
 clear hK K
 refine nmq_ (some 10) ?_
 refine laq_ 9 (some 11) rfl rfl (fun K hK => ?_)
 refine goq_ Tryz.func217 #[.pointer (some ⟨c.p, 0, none⟩), .int .i64 st.sp.f1, .int .u16 (addAccI (rdA st c.v) 1)] ?_
 with_reducible refine (store_c HR.out _ (addAccI (rdA st c.v) 1) h0 (addAcc_b (rdA_b ok c.v).1 (by have := (rdA_b ok c.v).2; omega) (by decide) (by decide)).1 (addAcc_b (rdA_b ok c.v).1 (by have := (rdA_b ok c.v).2; omega) (by decide) (by decide)).2 (by omega)).mono ?_
 rintro e wc ⟨rfl, hR⟩
 refine ⟨_, rfl, ?_⟩
 replace HR := Aside0.mk hR
 clear hR
 refine hK.out _ _ ?_
 clear hK K
 refine nmq_ (some 11) ?_
 refine done_ (by kernel_rfl) ?_
 go_wp2
 first | (go_end0; exact ⟨rfl, HR.out⟩) | ((try simp only [Exit.inBlock, Exit.then]); refine bodyPost_ret (results_none rfl _ _ _) rfl ⟨rfl, HR.out⟩) | (go_ret; exact ⟨rfl, HR.out⟩)
theorem ads_c (h : c.P n st w) (ok : st.r.Ok) (h0 : 0 ≤ st.sp.f1) (hn : n ≤ 80) : Calls Tryz.prog 116 #[.pointer (some ⟨c.p, 0, none⟩)] w fun e w' => e = .returned (.tuple #[]) ∧ c.P (n + 1 + 1) (xAds st c.v) w' := by
 have HR := Aside0.mk h
 clear h
 have hu0 := Tryz.underlying124
 have hu1 := Tryz.underlying26
 have hu2 := Tryz.underlying34
 have hu3 := Tryz.underlying103
 have hu4 := Tryz.underlying29
 go_enter Tryz.func116, Tryz.ntmps116
 go_upto_region 0 with (first | fail)
 replace HR := Aside0.mk HR.out.drew
 refine start_ (n := 9) (S := fun w' => w'.cell? ⟨c.p, 0, none⟩ = some (.int .u16 st.r.a)) (ds := []) #[false, false, false, false, false, false, false, false, false] (by kernel_rfl) rfl rfl (HR.out.c0) (fun hHeld => ?_)
 generalize w.drew = wd at HR hHeld ⊢
 refine pvq_ 0 (some 3) rfl rfl ?_
 refine pvq_ 1 (some 4) rfl rfl ?_
 refine pvq_ 2 (some 5) rfl rfl ?_
 refine pvq_ 3 (some 6) rfl rfl ?_
 refine pvq_ 5 (some 8) rfl rfl ?_
 refine tkq_ 4 (some 7) rfl rfl hHeld ?_
 refine onq_ 6 (some 9) rfl rfl (fun K hK => ?_)
 refine goq_ Tryz.func118 #[.pointer (some ⟨c.p, 0, none⟩)] ?_
 with_reducible refine (read_c HR.out ok h0 (by omega)).mono ?_
 rintro e wc ⟨rfl, hR⟩
 refine ⟨_, rfl, ?_⟩
 replace HR := Aside0.mk hR
 clear hR
 refine hK.out _ _ (HR.out.c0) (fun hHeld => ?_)
 clear hK K
 refine nmq_ (some 9) ?_
 refine onq_ 7 (some 10) rfl rfl (fun K hK => ?_)
 refine goq_ Tryz.func129 #[.int .u16 (st.r.a), .int .u16 (rdA st c.v)] ?_
 with_reducible refine (addAcc_c _ _ ok.a0 (by have := ok.a1; omega) (rdA_b ok c.v).1 (rdA_b ok c.v).2 _).mono ?_
 rintro e wc ⟨rfl, hR⟩
 refine ⟨_, rfl, ?_⟩
 replace HR := Aside0.mk (HR.out.drawn hR)
 clear hR
 refine hK.out _ _ (HR.out.c0) (fun hHeld => ?_)
 clear hK K
 refine nmq_ (some 10) ?_
 refine pvq_ 8 (some 2) rfl rfl ?_
 refine done_ (by kernel_rfl) ?_
 have x23 : wc.cell? ⟨c.p, 23, none⟩ = some (.int .i64 st.sp.f1) := HR.out.c23
 go_wp2_with (first | (go_at_call 217; (with_reducible refine at_args #[.pointer (some ⟨c.p, 0, none⟩), .int .i64 st.sp.f1, .int .u16 (addAccI st.r.a (rdA st c.v))] ?_); (with_reducible refine (store_c HR.out _ (addAccI st.r.a (rdA st c.v)) h0 (addAcc_b ok.a0 ok.a1 (rdA_b ok c.v).1 (by have := (rdA_b ok c.v).2; omega)).1 (addAcc_b ok.a0 ok.a1 (rdA_b ok c.v).1 (by have := (rdA_b ok c.v).2; omega)).2 (by omega)).mono ?_); rintro e wc ⟨rfl, hR⟩; replace HR := Aside0.mk hR; clear hR) | (refine HR.out.e0 rfl _ _ _ rfl rfl _ rfl ?hi ?_; (case hi => kernel_rfl); intro wc hR; replace HR := Aside0.mk hR; clear hR))
 first | (go_end0; exact ⟨rfl, HR.out⟩) | ((try simp only [Exit.inBlock, Exit.then]); refine bodyPost_ret (results_none rfl _ _ _) rfl ⟨rfl, HR.out⟩) | (go_ret; exact ⟨rfl, HR.out⟩)
theorem exch_l (h : c.P n st w) (ok : st.r.Ok) (h0 : 0 ≤ st.sp.f1) (hn : n ≤ 80) : Calls Tryz.prog 113 #[.pointer (some ⟨c.p, 0, none⟩), .pointer (some ⟨c.p, 1, none⟩)] w fun e w' => e = .returned (.tuple #[]) ∧ c.P (n + 1 + 1) (xLxch st c.v) w' := by
 have HR := Aside0.mk h
 clear h
 have hu0 := Tryz.underlying124
 have hu1 := Tryz.underlying26
 have hu2 := Tryz.underlying34
 have hu3 := Tryz.underlying103
 have hu4 := Tryz.underlying29
 go_enter Tryz.func113, Tryz.ntmps113
 go_upto_region 1 with (first | (go_at_call 122; (with_reducible refine at_args #[.pointer (some ⟨c.p, 0, none⟩)] ?_); (with_reducible refine (word_c HR.out ok h0 (by omega)).mono ?_); rintro e wc ⟨rfl, hR⟩; replace HR := Aside0.mk hR; clear hR))
 replace HR := Aside0.mk HR.out.drew
 refine start_ (n := 11) (S := fun w' => w'.cell? ⟨c.p, 23, none⟩ = some (.int .i64 st.sp.f1) ∧ w'.cell? ⟨c.p, 1, none⟩ = some (.int .u16 st.r.l)) (ds := [10]) #[false, false, false, false, false, false, false, false, false, false, false] (by kernel_rfl) rfl rfl ⟨HR.out.c23, HR.out.c1⟩ (fun hHeld => ?_)
 generalize wc.drew = wd at HR hHeld ⊢
 refine pvq_ 0 (some 7) rfl rfl ?_
 refine pvq_ 1 (some 8) rfl rfl ?_
 refine pvq_ 2 (some 9) rfl rfl ?_
 refine pvq_ 3 (some 10) rfl rfl ?_
 refine pvq_ 4 (some 11) rfl rfl ?_
 refine pvq_ 6 (some 13) rfl rfl ?_
 refine pvq_ 7 (some 14) rfl rfl ?_
 refine tkq_ 5 (some 12) rfl rfl hHeld ?_
 refine tkq_ 8 (some 15) rfl rfl hHeld ?_
 refine onq_ 9 (some 16) rfl rfl (fun K hK => ?_)
 refine goq_ Tryz.func186 #[.int .u16 st.r.l] ?_
 with_reducible refine (ext_c _ ok.l0 (by have := ok.l1; omega) _).mono ?_
 rintro e wc ⟨rfl, hR⟩
 refine ⟨_, rfl, ?_⟩
 replace HR := Aside0.mk (HR.out.drawn hR)
 clear hR
 refine hK.out _ _ ⟨HR.out.c23, HR.out.c1⟩ (fun hHeld => ?_)
 clear hK K
 refine nmq_ (some 16) ?_
 refine laq_ 10 (some 17) rfl rfl (fun K hK => ?_)
 refine goq_ Tryz.func217 #[.pointer (some ⟨c.p, 0, none⟩), .int .i64 st.sp.f1, .int .u16 (extI st.r.l)] ?_
 with_reducible refine (store_c HR.out _ (extI st.r.l) h0 (ext_b _).1 (ext_b _).2 (by omega)).mono ?_
 rintro e wc ⟨rfl, hR⟩
 refine ⟨_, rfl, ?_⟩
 replace HR := Aside0.mk hR
 clear hR
 refine hK.out _ _ ?_
 clear hK K
 refine nmq_ (some 17) ?_
 refine done_ (by kernel_rfl) ?_
 go_wp2_with (first | (refine HR.out.e1 rfl _ _ _ rfl rfl _ rfl ?hi ?_; (case hi => kernel_rfl); intro wc hR; replace HR := Aside0.mk hR; clear hR))
 first | (go_end0; exact ⟨rfl, HR.out⟩) | ((try simp only [Exit.inBlock, Exit.then]); refine bodyPost_ret (results_none rfl _ _ _) rfl ⟨rfl, HR.out⟩) | (go_ret; exact ⟨rfl, HR.out⟩)
theorem lxch_c (h : c.P n st w) (ok : st.r.Ok) (h0 : 0 ≤ st.sp.f1) (hn : n ≤ 80) : Calls Tryz.prog 112 #[.pointer (some ⟨c.g, 0, none⟩)] w fun e w' => e = .returned (.tuple #[]) ∧ c.P (n + 1 + 1) (xLxch st c.v) w' := by
 have HR := Aside0.mk h
 clear h
 have xb := HR.out.bx
 have hu0 := Tryz.underlying124
 have hu1 := Tryz.underlying26
 have hu2 := Tryz.underlying34
 have hu3 := Tryz.underlying103
 have hu4 := Tryz.underlying29
 go_enter Tryz.func112, Tryz.ntmps112
 replace HR := Aside0.mk HR.out.drew
 refine start_ (n := 6) (S := fun w' => w'.cell? ⟨c.g, 0, none⟩ = some (.pointer (some ⟨c.p, 0, none⟩))) (ds := []) #[false, false, false, false, false, false] (by kernel_rfl) rfl rfl (HR.out.bx) (fun hHeld => ?_)
 generalize w.drew = wd at HR hHeld ⊢
 refine tkq_ 0 (some 1) rfl rfl hHeld ?_
 refine tkq_ 1 (some 2) rfl rfl hHeld ?_
 refine pvq_ 2 (some 3) rfl rfl ?_
 refine pvq_ 3 (some 4) rfl rfl ?_
 refine pvq_ 4 (some 5) rfl rfl ?_
 refine onq_ 5 (some 6) rfl rfl (fun K hK => ?_)
 refine goq_ Tryz.func113 #[.pointer (some ⟨c.p, 0, none⟩), .pointer (some ⟨c.p, 1, none⟩)] ?_
 with_reducible refine (exch_l HR.out ok h0 hn).mono ?_
 rintro e wc ⟨rfl, hR⟩
 refine ⟨_, rfl, ?_⟩
 replace HR := Aside0.mk hR
 clear hR
 refine hK.out _ _ (HR.out.bx) (fun hHeld => ?_)
 clear hK K
 refine nmq_ (some 6) ?_
 refine done_ (by kernel_rfl) ?_
 go_wp2
 first | (go_end0; exact ⟨rfl, HR.out⟩) | ((try simp only [Exit.inBlock, Exit.then]); refine bodyPost_ret (results_none rfl _ _ _) rfl ⟨rfl, HR.out⟩) | (go_ret; exact ⟨rfl, HR.out⟩)
theorem exch_q (h : c.P n st w) (ok : st.r.Ok) (h0 : 0 ≤ st.sp.f1) (hn : n ≤ 80) : Calls Tryz.prog 113 #[.pointer (some ⟨c.p, 0, none⟩), .pointer (some ⟨c.p, 2, none⟩)] w fun e w' => e = .returned (.tuple #[]) ∧ c.P (n + 1 + 1) (xQxch st c.v) w' := by
 have HR := Aside0.mk h
 clear h
 have hu0 := Tryz.underlying124
 have hu1 := Tryz.underlying26
 have hu2 := Tryz.underlying34
 have hu3 := Tryz.underlying103
 have hu4 := Tryz.underlying29
 go_enter Tryz.func113, Tryz.ntmps113
 go_upto_region 1 with (first | (go_at_call 122; (with_reducible refine at_args #[.pointer (some ⟨c.p, 0, none⟩)] ?_); (with_reducible refine (word_c HR.out ok h0 (by omega)).mono ?_); rintro e wc ⟨rfl, hR⟩; replace HR := Aside0.mk hR; clear hR))
 replace HR := Aside0.mk HR.out.drew
 refine start_ (n := 11) (S := fun w' => w'.cell? ⟨c.p, 23, none⟩ = some (.int .i64 st.sp.f1) ∧ w'.cell? ⟨c.p, 2, none⟩ = some (.int .u16 st.r.q)) (ds := [10]) #[false, false, false, false, false, false, false, false, false, false, false] (by kernel_rfl) rfl rfl ⟨HR.out.c23, HR.out.c2⟩ (fun hHeld => ?_)
 generalize wc.drew = wd at HR hHeld ⊢
 refine pvq_ 0 (some 7) rfl rfl ?_
 refine pvq_ 1 (some 8) rfl rfl ?_
 refine pvq_ 2 (some 9) rfl rfl ?_
 refine pvq_ 3 (some 10) rfl rfl ?_
 refine pvq_ 4 (some 11) rfl rfl ?_
 refine pvq_ 6 (some 13) rfl rfl ?_
 refine pvq_ 7 (some 14) rfl rfl ?_
 refine tkq_ 5 (some 12) rfl rfl hHeld ?_
 refine tkq_ 8 (some 15) rfl rfl hHeld ?_
 refine onq_ 9 (some 16) rfl rfl (fun K hK => ?_)
 refine goq_ Tryz.func186 #[.int .u16 st.r.q] ?_
 with_reducible refine (ext_c _ ok.q0 (by have := ok.q1; omega) _).mono ?_
 rintro e wc ⟨rfl, hR⟩
 refine ⟨_, rfl, ?_⟩
 replace HR := Aside0.mk (HR.out.drawn hR)
 clear hR
 refine hK.out _ _ ⟨HR.out.c23, HR.out.c2⟩ (fun hHeld => ?_)
 clear hK K
 refine nmq_ (some 16) ?_
 refine laq_ 10 (some 17) rfl rfl (fun K hK => ?_)
 refine goq_ Tryz.func217 #[.pointer (some ⟨c.p, 0, none⟩), .int .i64 st.sp.f1, .int .u16 (extI st.r.q)] ?_
 with_reducible refine (store_c HR.out _ (extI st.r.q) h0 (ext_b _).1 (ext_b _).2 (by omega)).mono ?_
 rintro e wc ⟨rfl, hR⟩
 refine ⟨_, rfl, ?_⟩
 replace HR := Aside0.mk hR
 clear hR
 refine hK.out _ _ ?_
 clear hK K
 refine nmq_ (some 17) ?_
 refine done_ (by kernel_rfl) ?_
 go_wp2_with (first | (refine HR.out.e2 rfl _ _ _ rfl rfl _ rfl ?hi ?_; (case hi => kernel_rfl); intro wc hR; replace HR := Aside0.mk hR; clear hR))
 first | (go_end0; exact ⟨rfl, HR.out⟩) | ((try simp only [Exit.inBlock, Exit.then]); refine bodyPost_ret (results_none rfl _ _ _) rfl ⟨rfl, HR.out⟩) | (go_ret; exact ⟨rfl, HR.out⟩)
theorem qxch_c (h : c.P n st w) (ok : st.r.Ok) (h0 : 0 ≤ st.sp.f1) (hn : n ≤ 80) : Calls Tryz.prog 114 #[.pointer (some ⟨c.g, 0, none⟩)] w fun e w' => e = .returned (.tuple #[]) ∧ c.P (n + 1 + 1) (xQxch st c.v) w' := by
 have HR := Aside0.mk h
 clear h
 have xb := HR.out.bx
 have hu0 := Tryz.underlying124
 have hu1 := Tryz.underlying26
 have hu2 := Tryz.underlying34
 have hu3 := Tryz.underlying103
 have hu4 := Tryz.underlying29
 go_enter Tryz.func114, Tryz.ntmps114
 replace HR := Aside0.mk HR.out.drew
 refine start_ (n := 6) (S := fun w' => w'.cell? ⟨c.g, 0, none⟩ = some (.pointer (some ⟨c.p, 0, none⟩))) (ds := []) #[false, false, false, false, false, false] (by kernel_rfl) rfl rfl (HR.out.bx) (fun hHeld => ?_)
 generalize w.drew = wd at HR hHeld ⊢
 refine tkq_ 0 (some 1) rfl rfl hHeld ?_
 refine tkq_ 1 (some 2) rfl rfl hHeld ?_
 refine pvq_ 2 (some 3) rfl rfl ?_
 refine pvq_ 3 (some 4) rfl rfl ?_
 refine pvq_ 4 (some 5) rfl rfl ?_
 refine onq_ 5 (some 6) rfl rfl (fun K hK => ?_)
 refine goq_ Tryz.func113 #[.pointer (some ⟨c.p, 0, none⟩), .pointer (some ⟨c.p, 2, none⟩)] ?_
 with_reducible refine (exch_q HR.out ok h0 hn).mono ?_
 rintro e wc ⟨rfl, hR⟩
 refine ⟨_, rfl, ?_⟩
 replace HR := Aside0.mk hR
 clear hR
 refine hK.out _ _ (HR.out.bx) (fun hHeld => ?_)
 clear hK K
 refine nmq_ (some 6) ?_
 refine done_ (by kernel_rfl) ?_
 go_wp2
 first | (go_end0; exact ⟨rfl, HR.out⟩) | ((try simp only [Exit.inBlock, Exit.then]); refine bodyPost_ret (results_none rfl _ _ _) rfl ⟨rfl, HR.out⟩) | (go_ret; exact ⟨rfl, HR.out⟩)
theorem chan_b {st : St} (ok : st.r.Ok) (v : Vw) : 0 ≤ st.chan v ∧ st.chan v ≤ 32767 := by
 have := ok.l0; have := ok.l1; have := ok.q0; have := ok.q1; have := ok.s0; have := ok.s1
 unfold St.chan
 repeat' split
 all_goals (first | exact elem_b _ _ | omega)
theorem and_b {a b : Int} (a0 : 0 ≤ a) (a1 : a ≤ 32767) (b0 : 0 ≤ b) (b1 : b ≤ 32767) : 0 ≤ Go.bits .and .u16 a b ∧ Go.bits .and .u16 a b ≤ 32767 := by
 rw [u16_and a b a0 (by omega) b0 (by omega)]
 have : a.toNat &&& b.toNat ≤ a.toNat := Nat.and_le_left
 omega
theorem or_b {a b : Int} (a0 : 0 ≤ a) (a1 : a ≤ 32767) (b0 : 0 ≤ b) (b1 : b ≤ 32767) : 0 ≤ Go.bits .or .u16 a b ∧ Go.bits .or .u16 a b ≤ 32767 := by
 rw [u16_or a b a0 (by omega) b0 (by omega)]
 have : a.toNat ||| b.toNat < 2 ^ 15 := Nat.or_lt_two_pow (by omega) (by omega)
 omega
theorem xor_b {a b : Int} (a0 : 0 ≤ a) (a1 : a ≤ 32767) (b0 : 0 ≤ b) (b1 : b ≤ 32767) : 0 ≤ Go.bits .xor .u16 a b ∧ Go.bits .xor .u16 a b ≤ 32767 := by
 have hx : a.toNat ^^^ b.toNat < 2 ^ 15 := Nat.xor_lt_two_pow (by omega) (by omega)
 have h1 : (BitVec.ofInt 16 a).toNat = a.toNat := by
  rw [show a = ((a.toNat : Nat) : Int) by omega, BitVec.ofInt_natCast, BitVec.toNat_ofNat]; exact Nat.mod_eq_of_lt (by omega)
 have h2 : (BitVec.ofInt 16 b).toNat = b.toNat := by
  rw [show b = ((b.toNat : Nat) : Int) by omega, BitVec.ofInt_natCast, BitVec.toNat_ofNat]; exact Nat.mod_eq_of_lt (by omega)
 have e : Go.bits .xor .u16 a b = ((a.toNat ^^^ b.toNat : Nat) : Int) := by
  show IntKind.u16.wrap ((BitVec.ofInt 16 a ^^^ BitVec.ofInt 16 b).toNat : Int) = _
  rw [BitVec.toNat_xor, h1, h2, IntKind.wrap_u16]
  omega
 rw [e]; omega
theorem mask_c (h : c.P n st w) (ok : st.r.Ok) (h0 : 0 ≤ st.sp.f1) (hn : n ≤ 80) : Calls Tryz.prog 131 #[.pointer (some ⟨c.g, 0, none⟩)] w fun e w' => e = .returned (.tuple #[]) ∧ c.P (n + 1) ((st.rd c.v).setA (extI (Go.bits .and .u16 (corI st.r.a) (rdW st c.v)))) w' := by
 have HR := Aside0.mk h
 clear h
 have xb := HR.out.bx
 have hu0 := Tryz.underlying124
 have hu1 := Tryz.underlying26
 have hu2 := Tryz.underlying34
 have hu3 := Tryz.underlying103
 have hu4 := Tryz.underlying29
 go_enter Tryz.func131, Tryz.ntmps131
 replace HR := Aside0.mk HR.out.drew
 refine start_ (n := 7) (S := fun w' => w'.cell? ⟨c.g, 0, none⟩ = some (.pointer (some ⟨c.p, 0, none⟩))) (ds := []) #[false, false, false, false, false, false, false] (by kernel_rfl) rfl rfl (HR.out.bx) (fun hHeld => ?_)
 generalize w.drew = wd at HR hHeld ⊢
 refine tkq_ 0 (some 1) rfl rfl hHeld ?_
 refine tkq_ 1 (some 2) rfl rfl hHeld ?_
 refine tkq_ 3 (some 4) rfl rfl hHeld ?_
 refine onq_ 2 (some 3) rfl rfl (fun K hK => ?_)
 refine goq_ Tryz.func133 #[.pointer (some ⟨c.p, 0, none⟩)] ?_
 with_reducible refine (a_c HR.out ok).mono ?_
 rintro e wc ⟨rfl, hR⟩
 refine ⟨_, rfl, ?_⟩
 replace HR := Aside0.mk hR
 clear hR
 refine hK.out _ _ (HR.out.bx) (fun hHeld => ?_)
 clear hK K
 refine nmq_ (some 3) ?_
 refine onq_ 4 (some 5) rfl rfl (fun K hK => ?_)
 refine goq_ Tryz.func122 #[.pointer (some ⟨c.p, 0, none⟩)] ?_
 with_reducible refine (word_c HR.out ok h0 (by omega)).mono ?_
 rintro e wc ⟨rfl, hR⟩
 refine ⟨_, rfl, ?_⟩
 replace HR := Aside0.mk hR
 clear hR
 refine hK.out _ _ (HR.out.bx) (fun hHeld => ?_)
 clear hK K
 refine nmq_ (some 5) ?_
 refine pvq_ 5 (some 6) rfl rfl ?_
 refine onq_ 6 (some 7) rfl rfl (fun K hK => ?_)
 refine goq_ Tryz.func132 #[.pointer (some ⟨c.p, 0, none⟩), .int .u16 (Go.bits .and .u16 (corI st.r.a) (rdW st c.v))] ?_
 with_reducible refine (set_c HR.out (Go.bits .and .u16 (corI st.r.a) (rdW st c.v)) (and_b (cor_b ok.a0 ok.a1).1 (cor_b ok.a0 ok.a1).2 (rdW_b ok c.v).1 (rdW_b2 ok c.v)).1 (by have := (and_b (cor_b ok.a0 ok.a1).1 (cor_b ok.a0 ok.a1).2 (rdW_b ok c.v).1 (rdW_b2 ok c.v)).2; omega)).mono ?_
 rintro e wc ⟨rfl, hR⟩
 refine ⟨_, rfl, ?_⟩
 replace HR := Aside0.mk hR
 clear hR
 refine hK.out _ _ (HR.out.bx) (fun hHeld => ?_)
 clear hK K
 refine nmq_ (some 7) ?_
 refine done_ (by kernel_rfl) ?_
 go_wp2
 first | (go_end0; exact ⟨rfl, HR.out⟩) | ((try simp only [Exit.inBlock, Exit.then]); refine bodyPost_ret (results_none rfl _ _ _) rfl ⟨rfl, HR.out⟩) | (go_ret; exact ⟨rfl, HR.out⟩)
theorem read_i (h : c.P n st w) (ok : st.r.Ok) (k0 : 0 ≤ st.k) (hn : n ≤ 80) : Calls Tryz.prog 138 #[.pointer (some ⟨c.g, 0, none⟩)] w fun e w' => e = .returned (.tuple #[]) ∧ c.P (n) (st.setA (extI (st.chan c.v))) w' := by
 have HR := Aside0.mk h
 clear h
 have xb := HR.out.bx
 have hu0 := Tryz.underlying124
 have hu1 := Tryz.underlying26
 have hu2 := Tryz.underlying34
 have hu3 := Tryz.underlying103
 have hu4 := Tryz.underlying29
 go_enter Tryz.func138, Tryz.ntmps138
 replace HR := Aside0.mk HR.out.drew
 refine start_ (n := 4) (S := fun w' => w'.cell? ⟨c.g, 0, none⟩ = some (.pointer (some ⟨c.p, 0, none⟩))) (ds := []) #[false, false, false, false] (by kernel_rfl) rfl rfl (HR.out.bx) (fun hHeld => ?_)
 generalize w.drew = wd at HR hHeld ⊢
 refine tkq_ 0 (some 1) rfl rfl hHeld ?_
 refine tkq_ 1 (some 2) rfl rfl hHeld ?_
 refine onq_ 2 (some 3) rfl rfl (fun K hK => ?_)
 refine goq_ Tryz.func139 #[.pointer (some ⟨c.p, 0, none⟩)] ?_
 with_reducible refine (channel_c HR.out ok k0).mono ?_
 rintro e wc ⟨rfl, hR⟩
 refine ⟨_, rfl, ?_⟩
 replace HR := Aside0.mk hR
 clear hR
 refine hK.out _ _ (HR.out.bx) (fun hHeld => ?_)
 clear hK K
 refine nmq_ (some 3) ?_
 refine onq_ 3 (some 4) rfl rfl (fun K hK => ?_)
 refine goq_ Tryz.func132 #[.pointer (some ⟨c.p, 0, none⟩), .int .u16 (st.chan c.v)] ?_
 with_reducible refine (set_c HR.out (st.chan c.v) (chan_b ok c.v).1 (by have := (chan_b ok c.v).2; omega)).mono ?_
 rintro e wc ⟨rfl, hR⟩
 refine ⟨_, rfl, ?_⟩
 replace HR := Aside0.mk hR
 clear hR
 refine hK.out _ _ (HR.out.bx) (fun hHeld => ?_)
 clear hK K
 refine nmq_ (some 4) ?_
 refine done_ (by kernel_rfl) ?_
 go_wp2
 first | (go_end0; exact ⟨rfl, HR.out⟩) | ((try simp only [Exit.inBlock, Exit.then]); refine bodyPost_ret (results_none rfl _ _ _) rfl ⟨rfl, HR.out⟩) | (go_ret; exact ⟨rfl, HR.out⟩)
theorem write_i (h : c.P n st w) (ok : st.r.Ok) (k0 : 0 ≤ st.k) (hn : n ≤ 80) : Calls Tryz.prog 140 #[.pointer (some ⟨c.g, 0, none⟩)] w fun e w' => e = .returned (.tuple #[]) ∧ c.P (n + 1) (st.out (corI st.r.a)) w' := by
 have HR := Aside0.mk h
 clear h
 have xb := HR.out.bx
 have hu0 := Tryz.underlying124
 have hu1 := Tryz.underlying26
 have hu2 := Tryz.underlying34
 have hu3 := Tryz.underlying103
 have hu4 := Tryz.underlying29
 go_enter Tryz.func140, Tryz.ntmps140
 replace HR := Aside0.mk HR.out.drew
 refine start_ (n := 4) (S := fun w' => w'.cell? ⟨c.g, 0, none⟩ = some (.pointer (some ⟨c.p, 0, none⟩))) (ds := []) #[false, false, false, false] (by kernel_rfl) rfl rfl (HR.out.bx) (fun hHeld => ?_)
 generalize w.drew = wd at HR hHeld ⊢
 refine tkq_ 0 (some 1) rfl rfl hHeld ?_
 refine tkq_ 1 (some 2) rfl rfl hHeld ?_
 refine onq_ 2 (some 3) rfl rfl (fun K hK => ?_)
 refine goq_ Tryz.func133 #[.pointer (some ⟨c.p, 0, none⟩)] ?_
 with_reducible refine (a_c HR.out ok).mono ?_
 rintro e wc ⟨rfl, hR⟩
 refine ⟨_, rfl, ?_⟩
 replace HR := Aside0.mk hR
 clear hR
 refine hK.out _ _ (HR.out.bx) (fun hHeld => ?_)
 clear hK K
 refine nmq_ (some 3) ?_
 refine onq_ 3 (some 4) rfl rfl (fun K hK => ?_)
 refine goq_ Tryz.func141 #[.pointer (some ⟨c.p, 0, none⟩), .int .u16 (corI st.r.a)] ?_
 with_reducible refine (out_c HR.out (corI st.r.a) (cor_b ok.a0 ok.a1).1 (cor_b ok.a0 ok.a1).2 (by omega)).mono ?_
 rintro e wc ⟨rfl, hR⟩
 refine ⟨_, rfl, ?_⟩
 replace HR := Aside0.mk hR
 clear hR
 refine hK.out _ _ (HR.out.bx) (fun hHeld => ?_)
 clear hK K
 refine nmq_ (some 4) ?_
 refine done_ (by kernel_rfl) ?_
 go_wp2
 first | (go_end0; exact ⟨rfl, HR.out⟩) | ((try simp only [Exit.inBlock, Exit.then]); refine bodyPost_ret (results_none rfl _ _ _) rfl ⟨rfl, HR.out⟩) | (go_ret; exact ⟨rfl, HR.out⟩)
theorem rand_i (h : c.P n st w) (ok : st.r.Ok) (k0 : 0 ≤ st.k) (hn : n ≤ 80) : Calls Tryz.prog 142 #[.pointer (some ⟨c.g, 0, none⟩)] w fun e w' => e = .returned (.tuple #[]) ∧ c.P (n) (st.setA (extI (Go.bits .and .u16 (corI st.r.a) (st.chan c.v)))) w' := by
 have HR := Aside0.mk h
 clear h
 have xb := HR.out.bx
 have hu0 := Tryz.underlying124
 have hu1 := Tryz.underlying26
 have hu2 := Tryz.underlying34
 have hu3 := Tryz.underlying103
 have hu4 := Tryz.underlying29
 go_enter Tryz.func142, Tryz.ntmps142
 replace HR := Aside0.mk HR.out.drew
 refine start_ (n := 7) (S := fun w' => w'.cell? ⟨c.g, 0, none⟩ = some (.pointer (some ⟨c.p, 0, none⟩))) (ds := []) #[false, false, false, false, false, false, false] (by kernel_rfl) rfl rfl (HR.out.bx) (fun hHeld => ?_)
 generalize w.drew = wd at HR hHeld ⊢
 refine tkq_ 0 (some 1) rfl rfl hHeld ?_
 refine tkq_ 1 (some 2) rfl rfl hHeld ?_
 refine tkq_ 3 (some 4) rfl rfl hHeld ?_
 refine onq_ 2 (some 3) rfl rfl (fun K hK => ?_)
 refine goq_ Tryz.func133 #[.pointer (some ⟨c.p, 0, none⟩)] ?_
 with_reducible refine (a_c HR.out ok).mono ?_
 rintro e wc ⟨rfl, hR⟩
 refine ⟨_, rfl, ?_⟩
 replace HR := Aside0.mk hR
 clear hR
 refine hK.out _ _ (HR.out.bx) (fun hHeld => ?_)
 clear hK K
 refine nmq_ (some 3) ?_
 refine onq_ 4 (some 5) rfl rfl (fun K hK => ?_)
 refine goq_ Tryz.func139 #[.pointer (some ⟨c.p, 0, none⟩)] ?_
 with_reducible refine (channel_c HR.out ok k0).mono ?_
 rintro e wc ⟨rfl, hR⟩
 refine ⟨_, rfl, ?_⟩
 replace HR := Aside0.mk hR
 clear hR
 refine hK.out _ _ (HR.out.bx) (fun hHeld => ?_)
 clear hK K
 refine nmq_ (some 5) ?_
 refine pvq_ 5 (some 6) rfl rfl ?_
 refine onq_ 6 (some 7) rfl rfl (fun K hK => ?_)
 refine goq_ Tryz.func132 #[.pointer (some ⟨c.p, 0, none⟩), .int .u16 (Go.bits .and .u16 (corI st.r.a) (st.chan c.v))] ?_
 with_reducible refine (set_c HR.out (Go.bits .and .u16 (corI st.r.a) (st.chan c.v)) (and_b (cor_b ok.a0 ok.a1).1 (cor_b ok.a0 ok.a1).2 (chan_b ok c.v).1 (chan_b ok c.v).2).1 (by have := (and_b (cor_b ok.a0 ok.a1).1 (cor_b ok.a0 ok.a1).2 (chan_b ok c.v).1 (chan_b ok c.v).2).2; omega)).mono ?_
 rintro e wc ⟨rfl, hR⟩
 refine ⟨_, rfl, ?_⟩
 replace HR := Aside0.mk hR
 clear hR
 refine hK.out _ _ (HR.out.bx) (fun hHeld => ?_)
 clear hK K
 refine nmq_ (some 7) ?_
 refine done_ (by kernel_rfl) ?_
 go_wp2
 first | (go_end0; exact ⟨rfl, HR.out⟩) | ((try simp only [Exit.inBlock, Exit.then]); refine bodyPost_ret (results_none rfl _ _ _) rfl ⟨rfl, HR.out⟩) | (go_ret; exact ⟨rfl, HR.out⟩)
theorem ror_i (h : c.P n st w) (ok : st.r.Ok) (k0 : 0 ≤ st.k) (hn : n ≤ 80) : Calls Tryz.prog 143 #[.pointer (some ⟨c.g, 0, none⟩)] w fun e w' => e = .returned (.tuple #[]) ∧ c.P (n) (st.setA (extI (Go.bits .or .u16 (corI st.r.a) (st.chan c.v)))) w' := by
 have HR := Aside0.mk h
 clear h
 have xb := HR.out.bx
 have hu0 := Tryz.underlying124
 have hu1 := Tryz.underlying26
 have hu2 := Tryz.underlying34
 have hu3 := Tryz.underlying103
 have hu4 := Tryz.underlying29
 go_enter Tryz.func143, Tryz.ntmps143
 replace HR := Aside0.mk HR.out.drew
 refine start_ (n := 7) (S := fun w' => w'.cell? ⟨c.g, 0, none⟩ = some (.pointer (some ⟨c.p, 0, none⟩))) (ds := []) #[false, false, false, false, false, false, false] (by kernel_rfl) rfl rfl (HR.out.bx) (fun hHeld => ?_)
 generalize w.drew = wd at HR hHeld ⊢
 refine tkq_ 0 (some 1) rfl rfl hHeld ?_
 refine tkq_ 1 (some 2) rfl rfl hHeld ?_
 refine tkq_ 3 (some 4) rfl rfl hHeld ?_
 refine onq_ 2 (some 3) rfl rfl (fun K hK => ?_)
 refine goq_ Tryz.func133 #[.pointer (some ⟨c.p, 0, none⟩)] ?_
 with_reducible refine (a_c HR.out ok).mono ?_
 rintro e wc ⟨rfl, hR⟩
 refine ⟨_, rfl, ?_⟩
 replace HR := Aside0.mk hR
 clear hR
 refine hK.out _ _ (HR.out.bx) (fun hHeld => ?_)
 clear hK K
 refine nmq_ (some 3) ?_
 refine onq_ 4 (some 5) rfl rfl (fun K hK => ?_)
 refine goq_ Tryz.func139 #[.pointer (some ⟨c.p, 0, none⟩)] ?_
 with_reducible refine (channel_c HR.out ok k0).mono ?_
 rintro e wc ⟨rfl, hR⟩
 refine ⟨_, rfl, ?_⟩
 replace HR := Aside0.mk hR
 clear hR
 refine hK.out _ _ (HR.out.bx) (fun hHeld => ?_)
 clear hK K
 refine nmq_ (some 5) ?_
 refine pvq_ 5 (some 6) rfl rfl ?_
 refine onq_ 6 (some 7) rfl rfl (fun K hK => ?_)
 refine goq_ Tryz.func132 #[.pointer (some ⟨c.p, 0, none⟩), .int .u16 (Go.bits .or .u16 (corI st.r.a) (st.chan c.v))] ?_
 with_reducible refine (set_c HR.out (Go.bits .or .u16 (corI st.r.a) (st.chan c.v)) (or_b (cor_b ok.a0 ok.a1).1 (cor_b ok.a0 ok.a1).2 (chan_b ok c.v).1 (chan_b ok c.v).2).1 (by have := (or_b (cor_b ok.a0 ok.a1).1 (cor_b ok.a0 ok.a1).2 (chan_b ok c.v).1 (chan_b ok c.v).2).2; omega)).mono ?_
 rintro e wc ⟨rfl, hR⟩
 refine ⟨_, rfl, ?_⟩
 replace HR := Aside0.mk hR
 clear hR
 refine hK.out _ _ (HR.out.bx) (fun hHeld => ?_)
 clear hK K
 refine nmq_ (some 7) ?_
 refine done_ (by kernel_rfl) ?_
 go_wp2
 first | (go_end0; exact ⟨rfl, HR.out⟩) | ((try simp only [Exit.inBlock, Exit.then]); refine bodyPost_ret (results_none rfl _ _ _) rfl ⟨rfl, HR.out⟩) | (go_ret; exact ⟨rfl, HR.out⟩)
theorem rxor_i (h : c.P n st w) (ok : st.r.Ok) (k0 : 0 ≤ st.k) (hn : n ≤ 80) : Calls Tryz.prog 144 #[.pointer (some ⟨c.g, 0, none⟩)] w fun e w' => e = .returned (.tuple #[]) ∧ c.P (n) (st.setA (extI (Go.bits .xor .u16 (corI st.r.a) (st.chan c.v)))) w' := by
 have HR := Aside0.mk h
 clear h
 have xb := HR.out.bx
 have hu0 := Tryz.underlying124
 have hu1 := Tryz.underlying26
 have hu2 := Tryz.underlying34
 have hu3 := Tryz.underlying103
 have hu4 := Tryz.underlying29
 go_enter Tryz.func144, Tryz.ntmps144
 replace HR := Aside0.mk HR.out.drew
 refine start_ (n := 7) (S := fun w' => w'.cell? ⟨c.g, 0, none⟩ = some (.pointer (some ⟨c.p, 0, none⟩))) (ds := []) #[false, false, false, false, false, false, false] (by kernel_rfl) rfl rfl (HR.out.bx) (fun hHeld => ?_)
 generalize w.drew = wd at HR hHeld ⊢
 refine tkq_ 0 (some 1) rfl rfl hHeld ?_
 refine tkq_ 1 (some 2) rfl rfl hHeld ?_
 refine tkq_ 3 (some 4) rfl rfl hHeld ?_
 refine onq_ 2 (some 3) rfl rfl (fun K hK => ?_)
 refine goq_ Tryz.func133 #[.pointer (some ⟨c.p, 0, none⟩)] ?_
 with_reducible refine (a_c HR.out ok).mono ?_
 rintro e wc ⟨rfl, hR⟩
 refine ⟨_, rfl, ?_⟩
 replace HR := Aside0.mk hR
 clear hR
 refine hK.out _ _ (HR.out.bx) (fun hHeld => ?_)
 clear hK K
 refine nmq_ (some 3) ?_
 refine onq_ 4 (some 5) rfl rfl (fun K hK => ?_)
 refine goq_ Tryz.func139 #[.pointer (some ⟨c.p, 0, none⟩)] ?_
 with_reducible refine (channel_c HR.out ok k0).mono ?_
 rintro e wc ⟨rfl, hR⟩
 refine ⟨_, rfl, ?_⟩
 replace HR := Aside0.mk hR
 clear hR
 refine hK.out _ _ (HR.out.bx) (fun hHeld => ?_)
 clear hK K
 refine nmq_ (some 5) ?_
 refine pvq_ 5 (some 6) rfl rfl ?_
 refine onq_ 6 (some 7) rfl rfl (fun K hK => ?_)
 refine goq_ Tryz.func132 #[.pointer (some ⟨c.p, 0, none⟩), .int .u16 (Go.bits .xor .u16 (corI st.r.a) (st.chan c.v))] ?_
 with_reducible refine (set_c HR.out (Go.bits .xor .u16 (corI st.r.a) (st.chan c.v)) (xor_b (cor_b ok.a0 ok.a1).1 (cor_b ok.a0 ok.a1).2 (chan_b ok c.v).1 (chan_b ok c.v).2).1 (by have := (xor_b (cor_b ok.a0 ok.a1).1 (cor_b ok.a0 ok.a1).2 (chan_b ok c.v).1 (chan_b ok c.v).2).2; omega)).mono ?_
 rintro e wc ⟨rfl, hR⟩
 refine ⟨_, rfl, ?_⟩
 replace HR := Aside0.mk hR
 clear hR
 refine hK.out _ _ (HR.out.bx) (fun hHeld => ?_)
 clear hK K
 refine nmq_ (some 7) ?_
 refine done_ (by kernel_rfl) ?_
 go_wp2
 first | (go_end0; exact ⟨rfl, HR.out⟩) | ((try simp only [Exit.inBlock, Exit.then]); refine bodyPost_ret (results_none rfl _ _ _) rfl ⟨rfl, HR.out⟩) | (go_ret; exact ⟨rfl, HR.out⟩)
theorem wand_i (h : c.P n st w) (ok : st.r.Ok) (k0 : 0 ≤ st.k) (hn : n ≤ 80) : Calls Tryz.prog 145 #[.pointer (some ⟨c.g, 0, none⟩)] w fun e w' => e = .returned (.tuple #[]) ∧ c.P (n + 1) (xBoth st (Go.bits .and .u16 (corI st.r.a) (st.chan c.v))) w' := by
 have HR := Aside0.mk h
 clear h
 have xb := HR.out.bx
 have hu0 := Tryz.underlying124
 have hu1 := Tryz.underlying26
 have hu2 := Tryz.underlying34
 have hu3 := Tryz.underlying103
 have hu4 := Tryz.underlying29
 go_enter Tryz.func145, Tryz.ntmps145
 replace HR := Aside0.mk HR.out.drew
 refine start_ (n := 7) (S := fun w' => w'.cell? ⟨c.g, 0, none⟩ = some (.pointer (some ⟨c.p, 0, none⟩))) (ds := []) #[false, false, false, false, false, false, false] (by kernel_rfl) rfl rfl (HR.out.bx) (fun hHeld => ?_)
 generalize w.drew = wd at HR hHeld ⊢
 refine tkq_ 0 (some 1) rfl rfl hHeld ?_
 refine tkq_ 1 (some 2) rfl rfl hHeld ?_
 refine tkq_ 3 (some 4) rfl rfl hHeld ?_
 refine onq_ 2 (some 3) rfl rfl (fun K hK => ?_)
 refine goq_ Tryz.func133 #[.pointer (some ⟨c.p, 0, none⟩)] ?_
 with_reducible refine (a_c HR.out ok).mono ?_
 rintro e wc ⟨rfl, hR⟩
 refine ⟨_, rfl, ?_⟩
 replace HR := Aside0.mk hR
 clear hR
 refine hK.out _ _ (HR.out.bx) (fun hHeld => ?_)
 clear hK K
 refine nmq_ (some 3) ?_
 refine onq_ 4 (some 5) rfl rfl (fun K hK => ?_)
 refine goq_ Tryz.func139 #[.pointer (some ⟨c.p, 0, none⟩)] ?_
 with_reducible refine (channel_c HR.out ok k0).mono ?_
 rintro e wc ⟨rfl, hR⟩
 refine ⟨_, rfl, ?_⟩
 replace HR := Aside0.mk hR
 clear hR
 refine hK.out _ _ (HR.out.bx) (fun hHeld => ?_)
 clear hK K
 refine nmq_ (some 5) ?_
 refine pvq_ 5 (some 6) rfl rfl ?_
 refine onq_ 6 (some 7) rfl rfl (fun K hK => ?_)
 refine goq_ Tryz.func146 #[.pointer (some ⟨c.p, 0, none⟩), .int .u16 (Go.bits .and .u16 (corI st.r.a) (st.chan c.v))] ?_
 with_reducible refine (both_c HR.out (Go.bits .and .u16 (corI st.r.a) (st.chan c.v)) (and_b (cor_b ok.a0 ok.a1).1 (cor_b ok.a0 ok.a1).2 (chan_b ok c.v).1 (chan_b ok c.v).2).1 (and_b (cor_b ok.a0 ok.a1).1 (cor_b ok.a0 ok.a1).2 (chan_b ok c.v).1 (chan_b ok c.v).2).2 (by omega)).mono ?_
 rintro e wc ⟨rfl, hR⟩
 refine ⟨_, rfl, ?_⟩
 replace HR := Aside0.mk hR
 clear hR
 refine hK.out _ _ (HR.out.bx) (fun hHeld => ?_)
 clear hK K
 refine nmq_ (some 7) ?_
 refine done_ (by kernel_rfl) ?_
 go_wp2
 first | (go_end0; exact ⟨rfl, HR.out⟩) | ((try simp only [Exit.inBlock, Exit.then]); refine bodyPost_ret (results_none rfl _ _ _) rfl ⟨rfl, HR.out⟩) | (go_ret; exact ⟨rfl, HR.out⟩)
theorem wor_i (h : c.P n st w) (ok : st.r.Ok) (k0 : 0 ≤ st.k) (hn : n ≤ 80) : Calls Tryz.prog 147 #[.pointer (some ⟨c.g, 0, none⟩)] w fun e w' => e = .returned (.tuple #[]) ∧ c.P (n + 1) (xBoth st (Go.bits .or .u16 (corI st.r.a) (st.chan c.v))) w' := by
 have HR := Aside0.mk h
 clear h
 have xb := HR.out.bx
 have hu0 := Tryz.underlying124
 have hu1 := Tryz.underlying26
 have hu2 := Tryz.underlying34
 have hu3 := Tryz.underlying103
 have hu4 := Tryz.underlying29
 go_enter Tryz.func147, Tryz.ntmps147
 replace HR := Aside0.mk HR.out.drew
 refine start_ (n := 7) (S := fun w' => w'.cell? ⟨c.g, 0, none⟩ = some (.pointer (some ⟨c.p, 0, none⟩))) (ds := []) #[false, false, false, false, false, false, false] (by kernel_rfl) rfl rfl (HR.out.bx) (fun hHeld => ?_)
 generalize w.drew = wd at HR hHeld ⊢
 refine tkq_ 0 (some 1) rfl rfl hHeld ?_
 refine tkq_ 1 (some 2) rfl rfl hHeld ?_
 refine tkq_ 3 (some 4) rfl rfl hHeld ?_
 refine onq_ 2 (some 3) rfl rfl (fun K hK => ?_)
 refine goq_ Tryz.func133 #[.pointer (some ⟨c.p, 0, none⟩)] ?_
 with_reducible refine (a_c HR.out ok).mono ?_
 rintro e wc ⟨rfl, hR⟩
 refine ⟨_, rfl, ?_⟩
 replace HR := Aside0.mk hR
 clear hR
 refine hK.out _ _ (HR.out.bx) (fun hHeld => ?_)
 clear hK K
 refine nmq_ (some 3) ?_
 refine onq_ 4 (some 5) rfl rfl (fun K hK => ?_)
 refine goq_ Tryz.func139 #[.pointer (some ⟨c.p, 0, none⟩)] ?_
 with_reducible refine (channel_c HR.out ok k0).mono ?_
 rintro e wc ⟨rfl, hR⟩
 refine ⟨_, rfl, ?_⟩
 replace HR := Aside0.mk hR
 clear hR
 refine hK.out _ _ (HR.out.bx) (fun hHeld => ?_)
 clear hK K
 refine nmq_ (some 5) ?_
 refine pvq_ 5 (some 6) rfl rfl ?_
 refine onq_ 6 (some 7) rfl rfl (fun K hK => ?_)
 refine goq_ Tryz.func146 #[.pointer (some ⟨c.p, 0, none⟩), .int .u16 (Go.bits .or .u16 (corI st.r.a) (st.chan c.v))] ?_
 with_reducible refine (both_c HR.out (Go.bits .or .u16 (corI st.r.a) (st.chan c.v)) (or_b (cor_b ok.a0 ok.a1).1 (cor_b ok.a0 ok.a1).2 (chan_b ok c.v).1 (chan_b ok c.v).2).1 (or_b (cor_b ok.a0 ok.a1).1 (cor_b ok.a0 ok.a1).2 (chan_b ok c.v).1 (chan_b ok c.v).2).2 (by omega)).mono ?_
 rintro e wc ⟨rfl, hR⟩
 refine ⟨_, rfl, ?_⟩
 replace HR := Aside0.mk hR
 clear hR
 refine hK.out _ _ (HR.out.bx) (fun hHeld => ?_)
 clear hK K
 refine nmq_ (some 7) ?_
 refine done_ (by kernel_rfl) ?_
 go_wp2
 first | (go_end0; exact ⟨rfl, HR.out⟩) | ((try simp only [Exit.inBlock, Exit.then]); refine bodyPost_ret (results_none rfl _ _ _) rfl ⟨rfl, HR.out⟩) | (go_ret; exact ⟨rfl, HR.out⟩)
end
end Go.Proofs.YtgbmaajfbbilhaaGreat.Cpu
end
