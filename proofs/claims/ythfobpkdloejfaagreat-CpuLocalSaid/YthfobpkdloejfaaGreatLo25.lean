/- Chapter 5: a part of its proof (cut by program out of CpuM); no condition. -/
import Derived.BigQuiet
import Derived.Deep.QuietTactic
import Derived.Test.YthfobpkdloejfaaGreatLo23
import Derived.Test.YthfobpkdloejfaaGreatLo24
set_option linter.unusedVariables false
set_option linter.unusedSimpArgs false
set_option linter.unusedSectionVars false
set_option maxRecDepth 100000
set_option maxHeartbeats 8000000
section
namespace Go.Proofs.YthfobpkdloejfaaGreat.Cpu
open Go.RowKit Go.Proofs.YthfobpkdloejfaaGreat.PAll Go.Proofs.YthfobpkdloejfaaGreat.One Go.Proofs.YthfobpkdloejfaaGreat.Mem Go.Proofs.YthfobpkdloejfaaGreat.Row Go.Proofs.YthfobpkdloejfaaGreatW.PrintWords Go.Proofs.YthfobpkdloejfaaGreatW.PrintLast Go.Proofs.YthfobpkdloejfaaGreatW.PrintMore Go.Proofs.YthfobpkdloejfaaGreat.Plain
section
variable {c : Cx} {n : Nat} {st : St} {w : World}
theorem skip_c (h : c.P n st w) (u : Int) (z0 : 0 ≤ st.r.z) (z1 : st.r.z ≤ 4095) (n0 : 0 ≤ u) (n1 : u ≤ 3) : Calls Tryz.prog 167 #[.pointer (some ⟨c.p, 0, none⟩), .int .i64 u] w fun e w' => e = .returned (.tuple #[]) ∧ c.P (n) ({ st with r := skipR st.r u }) w' := by
 have HR := Aside0.mk h
 clear h
 have x3 := HR.out.c3
 have e0 : wrap64 (st.r.z + u) = st.r.z + u := by unfold wrap64; omega
 have e1 : Go.bits .and .i64 (st.r.z + u) 4095 = (st.r.z + u) % 4096 := and_low 12 (by decide) (by omega) (by omega)
 have hu0 := Tryz.underlying97
 have hu1 := Tryz.underlying26
 have hu2 := Tryz.underlying48
 have hu3 := Tryz.underlying64
 have hu4 := Tryz.underlying29
 go_enter Tryz.func167, Tryz.ntmps167
 go_wp2_with (first | (refine HR.out.e3 rfl _ _ _ rfl rfl _ rfl ?hi ?_; (case hi => kernel_rfl); intro wc hR; replace HR := Aside0.mk hR; clear hR))
 first | (go_end0; exact ⟨rfl, HR.out⟩) | ((try simp only [Exit.inBlock, Exit.then]); refine bodyPost_ret (results_none rfl _ _ _) rfl ⟨rfl, HR.out⟩) | (go_ret; exact ⟨rfl, HR.out⟩)
theorem set_c (h : c.P n st w) (u : Int) (u0 : 0 ≤ u) (u1 : u < 65536) : Calls Tryz.prog 110 #[.pointer (some ⟨c.p, 0, none⟩), .int .u16 u] w fun e w' => e = .returned (.tuple #[]) ∧ c.P (n) (st.setA (extI u)) w' := by
 have HR := Aside0.mk h
 clear h
 have hu0 := Tryz.underlying97
 have hu1 := Tryz.underlying26
 have hu2 := Tryz.underlying48
 have hu3 := Tryz.underlying64
 have hu4 := Tryz.underlying29
 go_enter Tryz.func110, Tryz.ntmps110
 go_wp2_with (first | (go_at_call 33; (with_reducible refine at_args #[.int .u16 u] ?_); (with_reducible refine (ext_c _ u0 u1 _).mono ?_); rintro e wc ⟨rfl, hd⟩; replace HR := Aside0.mk (HR.out.drawn hd); clear hd) | (refine HR.out.e0 rfl _ _ _ rfl rfl _ rfl ?hi ?_; (case hi => kernel_rfl); intro wc hR; replace HR := Aside0.mk hR; clear hR))
 first | (go_end0; exact ⟨rfl, HR.out⟩) | ((try simp only [Exit.inBlock, Exit.then]); refine bodyPost_ret (results_none rfl _ _ _) rfl ⟨rfl, HR.out⟩) | (go_ret; exact ⟨rfl, HR.out⟩)
theorem a_c (h : c.P n st w) (ok : st.r.Ok) : Calls Tryz.prog 111 #[.pointer (some ⟨c.p, 0, none⟩)] w fun e w' => e = .returned (.int .u16 (corI st.r.a)) ∧ c.P (n) (st) w' := by
 have HR := Aside0.mk h
 clear h
 have x0 := HR.out.c0
 have hu0 := Tryz.underlying97
 have hu1 := Tryz.underlying26
 have hu2 := Tryz.underlying48
 have hu3 := Tryz.underlying64
 have hu4 := Tryz.underlying29
 go_enter Tryz.func111, Tryz.ntmps111
 go_wp2_with (first | (go_at_call 34; (with_reducible refine at_args #[.int .u16 st.r.a] ?_); (with_reducible refine (cor_c _ ok.a0 (by have := ok.a1; omega) _).mono ?_); rintro e wc ⟨rfl, hd⟩; replace HR := Aside0.mk (HR.out.drawn hd); clear hd; (try replace x0 := HR.out.c0)))
 first | (go_end0; exact ⟨rfl, HR.out⟩) | ((try simp only [Exit.inBlock, Exit.then]); refine bodyPost_ret (results_none rfl _ _ _) rfl ⟨rfl, HR.out⟩) | (go_ret; exact ⟨rfl, HR.out⟩)
theorem tcf_c (h : c.P n st w) : Calls Tryz.prog 85 #[.pointer (some ⟨c.p, 0, none⟩)] w fun e w' => e = .returned (.tuple #[]) ∧ c.P (n) (xTcf st) w' := by
 have HR := Aside0.mk h
 clear h
 have x21 := HR.out.c21
 have hu0 := Tryz.underlying97
 have hu1 := Tryz.underlying26
 have hu2 := Tryz.underlying48
 have hu3 := Tryz.underlying64
 have hu4 := Tryz.underlying29
 go_enter Tryz.func85, Tryz.ntmps85
 go_wp2_with (first | (refine HR.out.e3 rfl _ _ _ rfl rfl _ rfl ?hi ?_; (case hi => kernel_rfl); intro wc hR; replace HR := Aside0.mk hR; clear hR))
 first | (go_end0; exact ⟨rfl, HR.out⟩) | ((try simp only [Exit.inBlock, Exit.then]); refine bodyPost_ret (results_none rfl _ _ _) rfl ⟨rfl, HR.out⟩) | (go_ret; exact ⟨rfl, HR.out⟩)
theorem infoSpot : (Tryz.prog.info? 64).map (fun i => (i.zero, i.size, i.bytes)) = some (some (.agg #[.int .u8 0, .int .i64 0]), 2, 16) := by kernel_rfl
theorem infoCell : (Tryz.prog.info? 61).map (fun i => (i.zero, i.size, i.bytes)) = some (some (.agg #[.int .i64 0, .int .u16 0]), 2, 16) := by kernel_rfl
theorem seelen (st : St) (v : Vw) (x : Sp) {n : Nat} (h : st.sz ≤ n) (hn : n ≤ 90) : (st.reads.length + (if (lookN st.r v x).2 = true then [x] else []).length) * 16 ≤ 140737488355328 := by
 unfold St.sz at h
 split <;> simp <;> omega
theorem see_eq (st : St) (v : Vw) (x : Sp) : st.see v x = { st with reads := st.reads ++ (if (lookN st.r v x).2 = true then [x] else []) } := by unfold St.see; split <;> simp
theorem at_c (h : c.P n st w) (ok : st.r.Ok) (x : Sp) (h0 : 0 ≤ x.f1) (hn : n ≤ 90) : Calls Tryz.prog 169 #[.pointer (some ⟨c.p, 0, none⟩), .agg #[.int .u8 x.f0, .int .i64 x.f1]] w fun e w' => e = .returned (.int .u16 (lookN st.r c.v x).1) ∧ c.P (n + 1) (st.see c.v x) w' := by
 have HR := Aside0.mk h
 clear h
 have HB := Aside0.mk (Below.refl w.heap.size w)
 have hu0 := Tryz.underlying97
 have hu1 := Tryz.underlying26
 have hu2 := Tryz.underlying48
 have hu3 := Tryz.underlying64
 have hu4 := Tryz.underlying29
 go_enter Tryz.func169, Tryz.ntmps169
 go_upto_region 1 with (first | (refine boxq_ 3 #[.int .u8 x.f0, .int .i64 x.f1] 64 ?_; intro g3 hg wb K hb; (try have NE3_3 := nkb_ K3 hg); have L3 := lkb_ HB hg; (try replace HR := Aside0.mk (HR.out.below hb)); (try replace K3 := kbb_ K3 hb); replace HB := hbs_ HB hb; have K3 := Aside0.mk K; clear K hb hg))
 have hb := below_drew (Below.refl wb.heap.size wb)
 replace HR := Aside0.mk (HR.out.below hb)
 replace K3 := kbb_ K3 hb
 clear hb
 refine start_ (n := 14) (S := fun w' => w'.cell? ⟨g3, 0, none⟩ = some (.int .u8 x.f0) ∧ w'.cell? ⟨g3, 1, none⟩ = some (.int .i64 x.f1) ∧ w'.cell? ⟨c.p, 18, none⟩ = some c.ve ∧ w'.cell? ⟨c.p, 19, none⟩ = some c.vf ∧ w'.cell? ⟨c.p, 20, none⟩ = some c.vc) (ds := []) #[false, false, false, false, false, false, false, false, false, false, false, false, false, false] (by kernel_rfl) rfl rfl ⟨(blk_cell K3.out 0).trans rfl, (blk_cell K3.out 1).trans rfl, HR.out.c18, HR.out.c19, HR.out.c20⟩ (fun hHeld => ?_)
 generalize wb.drew = wd at HR K3 hHeld ⊢
 refine pvq_ 0 (some 8) rfl rfl ?_
 refine pvq_ 1 (some 9) rfl rfl ?_
 refine pvq_ 2 (some 10) rfl rfl ?_
 refine pvq_ 3 (some 11) rfl rfl ?_
 refine pvq_ 4 (some 12) rfl rfl ?_
 refine pvq_ 5 (some 13) rfl rfl ?_
 refine tkq_ 6 (some 14) rfl rfl hHeld ?_
 refine tkq_ 7 (some 15) rfl rfl hHeld ?_
 refine onq_ 8 (some 16) rfl rfl (fun K hK => ?_)
 refine goq_ Tryz.func42 #[.pointer (some ⟨c.p, 0, none⟩), .agg #[c.ve, c.vf, c.vc], .agg #[.int .u8 x.f0, .int .i64 x.f1]] ?_
 with_reducible refine (look_c _ HR.out.ra HR.out.view HR.out.ok.h0 HR.out.ok.h1 HR.out.ok.h2 x ok h0).mono ?_
 rintro e wc ⟨vl, rfl, hL, hb⟩
 refine ⟨_, rfl, ?_⟩
 have HL := Aside0.mk hL
 replace HR := Aside0.mk (HR.out.below hb)
 replace K3 := kbb_ K3 hb
 clear hL hb
 refine hK.out _ _ ⟨(blk_cell K3.out 0).trans rfl, (blk_cell K3.out 1).trans rfl, HR.out.c18, HR.out.c19, HR.out.c20⟩ (fun hHeld => ?_)
 clear hK K
 refine nmq_ (some 16) ?_
 refine pvq_ 9 (some 7) rfl rfl ?_
 refine pvq_ 10 (some 17) rfl rfl ?_
 refine pvq_ 11 (some 18) rfl rfl ?_
 refine pvq_ 12 (some 5) rfl rfl ?_
 refine pvq_ 13 (some 6) rfl rfl ?_
 refine done_ (by kernel_rfl) ?_
 obtain ⟨⟨vC, vO, vR, hF⟩, hok, hsz⟩ := HR.out
 have HLEN := seelen st c.v x hsz hn
 obtain ⟨L, eL⟩ : ∃ L, (if (lookN st.r c.v x).2 = true then [x] else []) = L := ⟨_, rfl⟩
 rw [eL] at HL HLEN
 replace HLEN := Aside0.mk HLEN
 replace eL := Lib.hid eL
 have HF := Aside0.mk hF
 obtain ⟨A, k, rfl, hk, hC⟩ := Kd.R_reads HL.out
 have HC := Aside0.mk hC
 have xR : wc.cell? ⟨c.p, 15, none⟩ = some vR := (blk_cell hF.blk 15).trans rfl
 clear hF hC HL HR
 go_wp2_with (first | ((with_reducible refine gate_builtin (b := .append) (xs := #[.tmp 24, .tmp 25]) rfl ?_); at_builtin; refine Kd.R_append_rows k64 (Rr := k64.K wc) (w0 := c.w0) c.w0.heap.size rfl (.tmp 24) (.tmp 25) 33 64 (.agg #[.int .u8 0, .int .i64 0]) 16 rfl Tryz.underlying33 infoSpot rfl (by decide) (by decide) vR st.reads _ A _ k (fun _ => True) (fun _ => False) rfl rfl HF.out.rr HC.out ?hKM (fun _ hk => hk.elim) (fun _ _ => trivial) HF.out.hb HF.out.base ?hl ?_; (case hKM => exact fun y cs hy => by obtain rfl := k64_open hy; exact k64_mkM _ _ _ y); (case hl => exact HLEN.out); intro v1 w1 hr hb hg hat; obtain ⟨B1, k1, e1, hk1, hC1⟩ := Kd.R_reads hr; rw [List.length_append] at e1; subst e1; replace HF := Aside0.mk (RunF.appR HF.out hr hb hg); clear hr hb hg hat hk1 hC1) | (refine store_cell_ rfl _ _ _ rfl c.p 15 rfl (.slice B1 (st.reads.length + L.length) k1) rfl vR ((blk_cell HF.out.blk 15).trans rfl) (blk_frozen HF.out.blk 15) rfl rfl ?hi ?_; (case hi => kernel_rfl); replace HF := Aside0.mk (RunF.set HF.out 15 (.slice B1 (st.reads.length + L.length) k1)); generalize World.setCell _ _ _ = wf at HF ⊢))
 go_ret
 refine ⟨rfl, ⟨?_, hok, Nat.le_trans (see_sz _ _ _) (by omega)⟩⟩
 rw [see_eq, eL.out]
 exact ⟨vC, vO, .slice B1 (st.reads.length + L.length) k1, HF.out⟩
theorem rdA_b {st : St} (ok : st.r.Ok) (v : Vw) : 0 ≤ rdA st v ∧ rdA st v < 65536 := by have := look_b ok v st.sp; unfold rdA; omega
theorem read_c (h : c.P n st w) (ok : st.r.Ok) (h0 : 0 ≤ st.sp.f1) (hn : n ≤ 90) : Calls Tryz.prog 97 #[.pointer (some ⟨c.p, 0, none⟩)] w fun e w' => e = .returned (.int .u16 (rdA st c.v)) ∧ c.P (n + 1) (st.rd c.v) w' := by
 have HR := Aside0.mk h
 clear h
 have x22 := HR.out.c22
 have x23 := HR.out.c23
 have hu0 := Tryz.underlying97
 have hu1 := Tryz.underlying26
 have hu2 := Tryz.underlying48
 have hu3 := Tryz.underlying64
 have hu4 := Tryz.underlying29
 go_enter Tryz.func97, Tryz.ntmps97
 go_wp2_with (first | (go_at_call 169; (with_reducible refine at_args #[.pointer (some ⟨c.p, 0, none⟩), .agg #[.int .u8 st.sp.f0, .int .i64 st.sp.f1]] ?_); (with_reducible refine (at_c HR.out ok st.sp h0 hn).mono ?_); rintro e wc ⟨rfl, hR⟩; replace HR := Aside0.mk hR; clear hR))
 first | (go_end0; exact ⟨rfl, HR.out⟩) | ((try simp only [Exit.inBlock, Exit.then]); refine bodyPost_ret (results_none rfl _ _ _) rfl ⟨rfl, HR.out⟩) | (go_ret; exact ⟨rfl, HR.out⟩)
theorem word_c (h : c.P n st w) (ok : st.r.Ok) (h0 : 0 ≤ st.sp.f1) (hn : n ≤ 90) : Calls Tryz.prog 100 #[.pointer (some ⟨c.p, 0, none⟩)] w fun e w' => e = .returned (.int .u16 (rdW st c.v)) ∧ c.P (n + 1) (st.rd c.v) w' := by
 have HR := Aside0.mk h
 clear h
 have hu0 := Tryz.underlying97
 have hu1 := Tryz.underlying26
 have hu2 := Tryz.underlying48
 have hu3 := Tryz.underlying64
 have hu4 := Tryz.underlying29
 go_enter Tryz.func100, Tryz.ntmps100
 go_wp2_with (first | (go_at_call 97; (with_reducible refine at_args #[.pointer (some ⟨c.p, 0, none⟩)] ?_); (with_reducible refine (read_c HR.out ok h0 hn).mono ?_); rintro e wc ⟨rfl, hR⟩; replace HR := Aside0.mk hR; clear hR) | (go_at_call 34; (with_reducible refine at_args #[.int .u16 (rdA st c.v)] ?_); (with_reducible refine (cor_c _ (rdA_b ok c.v).1 (rdA_b ok c.v).2 _).mono ?_); rintro e wc ⟨rfl, hd⟩; replace HR := Aside0.mk (HR.out.drawn hd); clear hd))
 first | (go_end0; exact ⟨rfl, HR.out⟩) | ((try simp only [Exit.inBlock, Exit.then]); refine bodyPost_ret (results_none rfl _ _ _) rfl ⟨rfl, HR.out⟩) | (go_ret; exact ⟨rfl, HR.out⟩)
theorem both_c0 (h : c.P n st w) (ok : st.r.Ok) (hk : st.k ≠ 2) : Calls Tryz.prog 84 #[.pointer (some ⟨c.p, 0, none⟩)] w fun e w' => e = .returned (.tuple #[]) ∧ c.P (n) (xTc st) w' := by
 have HR := Aside0.mk h
 clear h
 have x21 := HR.out.c21
 have x3 := HR.out.c3
 have x2 := HR.out.c2
 have y0 : (st.k == 2) = false := by simpa using hk
 have e3 : IntKind.u16.wrap st.r.z = st.r.z := u16w (by have := ok.z0; omega) (by have := ok.z1; omega)
 unfold xTc
 simp only [if_neg hk]
 have hu0 := Tryz.underlying97
 have hu1 := Tryz.underlying26
 have hu2 := Tryz.underlying48
 have hu3 := Tryz.underlying64
 have hu4 := Tryz.underlying29
 go_enter Tryz.func84, Tryz.ntmps84
 go_wp2_with (first | (refine HR.out.e2 rfl _ _ _ rfl rfl _ rfl ?hi ?_; (case hi => kernel_rfl); intro wc hR; replace HR := Aside0.mk hR; clear hR; (try replace x3 := HR.out.c3); (try replace x2 := HR.out.c2); (try replace x21 := HR.out.c21)) | (refine HR.out.e10 rfl _ _ _ rfl rfl _ rfl ?hi ?_; (case hi => kernel_rfl); intro wc hR; replace HR := Aside0.mk hR; clear hR; (try replace x2 := HR.out.c2); (try replace x3 := HR.out.c3); (try replace x21 := HR.out.c21)) | (refine HR.out.e9 rfl _ _ _ rfl rfl _ rfl ?hi ?_; (case hi => kernel_rfl); intro wc hR; replace HR := Aside0.mk hR; clear hR; (try replace x2 := HR.out.c2); (try replace x3 := HR.out.c3); (try replace x21 := HR.out.c21)) | (go_at_call 85; (with_reducible refine at_args #[.pointer (some ⟨c.p, 0, none⟩)] ?_); (with_reducible refine (tcf_c HR.out).mono ?_); rintro e wc ⟨rfl, hR⟩; replace HR := Aside0.mk hR; clear hR))
 first | (go_end0; exact ⟨rfl, HR.out⟩) | ((try simp only [Exit.inBlock, Exit.then]); refine bodyPost_ret (results_none rfl _ _ _) rfl ⟨rfl, HR.out⟩) | (go_ret; exact ⟨rfl, HR.out⟩)
theorem both_c1 (h : c.P n st w) (ok : st.r.Ok) (hk : st.k = 2) : Calls Tryz.prog 84 #[.pointer (some ⟨c.p, 0, none⟩)] w fun e w' => e = .returned (.tuple #[]) ∧ c.P (n) (xTc st) w' := by
 have HR := Aside0.mk h
 clear h
 have x21 := HR.out.c21
 have x3 := HR.out.c3
 have x2 := HR.out.c2
 have y0 : (st.k == 2) = true := by simpa using hk
 have e3 : IntKind.u16.wrap st.r.z = st.r.z := u16w (by have := ok.z0; omega) (by have := ok.z1; omega)
 unfold xTc
 simp only [if_pos hk]
 have hu0 := Tryz.underlying97
 have hu1 := Tryz.underlying26
 have hu2 := Tryz.underlying48
 have hu3 := Tryz.underlying64
 have hu4 := Tryz.underlying29
 go_enter Tryz.func84, Tryz.ntmps84
 go_wp2_with (first | (refine HR.out.e2 rfl _ _ _ rfl rfl _ rfl ?hi ?_; (case hi => kernel_rfl); intro wc hR; replace HR := Aside0.mk hR; clear hR; (try replace x3 := HR.out.c3); (try replace x2 := HR.out.c2); (try replace x21 := HR.out.c21)) | (refine HR.out.e10 rfl _ _ _ rfl rfl _ rfl ?hi ?_; (case hi => kernel_rfl); intro wc hR; replace HR := Aside0.mk hR; clear hR; (try replace x2 := HR.out.c2); (try replace x3 := HR.out.c3); (try replace x21 := HR.out.c21)) | (refine HR.out.e9 rfl _ _ _ rfl rfl _ rfl ?hi ?_; (case hi => kernel_rfl); intro wc hR; replace HR := Aside0.mk hR; clear hR; (try replace x2 := HR.out.c2); (try replace x3 := HR.out.c3); (try replace x21 := HR.out.c21)) | (go_at_call 85; (with_reducible refine at_args #[.pointer (some ⟨c.p, 0, none⟩)] ?_); (with_reducible refine (tcf_c HR.out).mono ?_); rintro e wc ⟨rfl, hR⟩; replace HR := Aside0.mk hR; clear hR))
 first | (go_end0; exact ⟨rfl, HR.out⟩) | ((try simp only [Exit.inBlock, Exit.then]); refine bodyPost_ret (results_none rfl _ _ _) rfl ⟨rfl, HR.out⟩) | (go_ret; exact ⟨rfl, HR.out⟩)
theorem branch_c (h : c.P n st w) (u : Bool) : Calls Tryz.prog 127 #[.pointer (some ⟨c.p, 0, none⟩), .bool u] w fun e w' => e = .returned (.tuple #[]) ∧ c.P (n) (xBranch st u) w' := by
 have HR := Aside0.mk h
 clear h
 have hu0 := Tryz.underlying97
 have hu1 := Tryz.underlying26
 have hu2 := Tryz.underlying48
 have hu3 := Tryz.underlying64
 have hu4 := Tryz.underlying29
 go_enter Tryz.func127, Tryz.ntmps127
 cases u
 · go_wp2_with (first | (refine HR.out.e16 rfl _ _ _ rfl rfl _ rfl ?hi ?_; (case hi => kernel_rfl); intro wc hR; replace HR := Aside0.mk hR; clear hR) | (go_at_call 85; (with_reducible refine at_args #[.pointer (some ⟨c.p, 0, none⟩)] ?_); (with_reducible refine (tcf_c HR.out).mono ?_); rintro e wc ⟨rfl, hR⟩; replace HR := Aside0.mk hR; clear hR))
   first | (go_end0; exact ⟨rfl, HR.out⟩) | ((try simp only [Exit.inBlock, Exit.then]); refine bodyPost_ret (results_none rfl _ _ _) rfl ⟨rfl, HR.out⟩)
 · go_wp2_with (first | (refine HR.out.e16 rfl _ _ _ rfl rfl _ rfl ?hi ?_; (case hi => kernel_rfl); intro wc hR; replace HR := Aside0.mk hR; clear hR) | (go_at_call 85; (with_reducible refine at_args #[.pointer (some ⟨c.p, 0, none⟩)] ?_); (with_reducible refine (tcf_c HR.out).mono ?_); rintro e wc ⟨rfl, hR⟩; replace HR := Aside0.mk hR; clear hR))
   first | (go_end0; exact ⟨rfl, HR.out⟩) | ((try simp only [Exit.inBlock, Exit.then]); refine bodyPost_ret (results_none rfl _ _ _) rfl ⟨rfl, HR.out⟩)
theorem store_0 (h : c.P n st w) (u : Int) (u0 : 0 ≤ u) (u1 : u ≤ 65535) : Calls Tryz.prog 172 #[.pointer (some ⟨c.p, 0, none⟩), .int .i64 0, .int .u16 u] w fun e w' => e = .returned (.tuple #[]) ∧ c.P (n) (st.put 0 u) w' := by
 have HR := Aside0.mk h
 clear h
 have hb := cor_b u0 u1
 have e3 : Go.bits .and .u16 (corI u / 256) 7 = corI u / 256 % 8 := and_7 (by omega) (by omega)
 have e5 : Go.bits .and .u16 (corI u) 4095 = corI u % 4096 := and_4095 (by omega) (by omega)
 have e6 : Go.bits .and .u16 (corI u) 7 = corI u % 8 := and_7 (by omega) (by omega)
 have e7 : IntKind.i64.wrap (corI u / 1024) = corI u / 1024 := wraps64 _ (by omega) (by omega)
 have e8 : wrap64 (corI u / 1024) = corI u / 1024 := by unfold wrap64; omega
 clear hb
 have hu0 := Tryz.underlying97
 have hu1 := Tryz.underlying26
 have hu2 := Tryz.underlying48
 have hu3 := Tryz.underlying64
 have hu4 := Tryz.underlying29
 go_enter Tryz.func172, Tryz.ntmps172
 go_wp2_with (first | (go_at_call 34; (with_reducible refine at_args #[.int .u16 u] ?_); (with_reducible refine (cor_c _ u0 (by omega) _).mono ?_); rintro e wc ⟨rfl, hd⟩; replace HR := Aside0.mk (HR.out.drawn hd); clear hd) | (refine HR.out.e0 rfl _ _ _ rfl rfl _ rfl ?hi ?_; (case hi => kernel_rfl); intro wc hR; replace HR := Aside0.mk hR; clear hR))
 first | (go_end0; exact ⟨rfl, HR.out⟩) | ((try simp only [Exit.inBlock, Exit.then]); refine bodyPost_ret (results_none rfl _ _ _) rfl ⟨rfl, HR.out⟩) | (go_ret; exact ⟨rfl, HR.out⟩)
theorem store_1 (h : c.P n st w) (u : Int) (u0 : 0 ≤ u) (u1 : u ≤ 65535) : Calls Tryz.prog 172 #[.pointer (some ⟨c.p, 0, none⟩), .int .i64 1, .int .u16 u] w fun e w' => e = .returned (.tuple #[]) ∧ c.P (n) (st.put 1 u) w' := by
 have HR := Aside0.mk h
 clear h
 have hb := cor_b u0 u1
 have e3 : Go.bits .and .u16 (corI u / 256) 7 = corI u / 256 % 8 := and_7 (by omega) (by omega)
 have e5 : Go.bits .and .u16 (corI u) 4095 = corI u % 4096 := and_4095 (by omega) (by omega)
 have e6 : Go.bits .and .u16 (corI u) 7 = corI u % 8 := and_7 (by omega) (by omega)
 have e7 : IntKind.i64.wrap (corI u / 1024) = corI u / 1024 := wraps64 _ (by omega) (by omega)
 have e8 : wrap64 (corI u / 1024) = corI u / 1024 := by unfold wrap64; omega
 clear hb
 have hu0 := Tryz.underlying97
 have hu1 := Tryz.underlying26
 have hu2 := Tryz.underlying48
 have hu3 := Tryz.underlying64
 have hu4 := Tryz.underlying29
 go_enter Tryz.func172, Tryz.ntmps172
 go_wp2_with (first | (go_at_call 34; (with_reducible refine at_args #[.int .u16 u] ?_); (with_reducible refine (cor_c _ u0 (by omega) _).mono ?_); rintro e wc ⟨rfl, hd⟩; replace HR := Aside0.mk (HR.out.drawn hd); clear hd) | (refine HR.out.e1 rfl _ _ _ rfl rfl _ rfl ?hi ?_; (case hi => kernel_rfl); intro wc hR; replace HR := Aside0.mk hR; clear hR))
 first | (go_end0; exact ⟨rfl, HR.out⟩) | ((try simp only [Exit.inBlock, Exit.then]); refine bodyPost_ret (results_none rfl _ _ _) rfl ⟨rfl, HR.out⟩) | (go_ret; exact ⟨rfl, HR.out⟩)
theorem store_2 (h : c.P n st w) (u : Int) (u0 : 0 ≤ u) (u1 : u ≤ 65535) : Calls Tryz.prog 172 #[.pointer (some ⟨c.p, 0, none⟩), .int .i64 2, .int .u16 u] w fun e w' => e = .returned (.tuple #[]) ∧ c.P (n) (st.put 2 u) w' := by
 have HR := Aside0.mk h
 clear h
 have hb := cor_b u0 u1
 have e3 : Go.bits .and .u16 (corI u / 256) 7 = corI u / 256 % 8 := and_7 (by omega) (by omega)
 have e5 : Go.bits .and .u16 (corI u) 4095 = corI u % 4096 := and_4095 (by omega) (by omega)
 have e6 : Go.bits .and .u16 (corI u) 7 = corI u % 8 := and_7 (by omega) (by omega)
 have e7 : IntKind.i64.wrap (corI u / 1024) = corI u / 1024 := wraps64 _ (by omega) (by omega)
 have e8 : wrap64 (corI u / 1024) = corI u / 1024 := by unfold wrap64; omega
 clear hb
 have hu0 := Tryz.underlying97
 have hu1 := Tryz.underlying26
 have hu2 := Tryz.underlying48
 have hu3 := Tryz.underlying64
 have hu4 := Tryz.underlying29
 go_enter Tryz.func172, Tryz.ntmps172
 go_wp2_with (first | (go_at_call 34; (with_reducible refine at_args #[.int .u16 u] ?_); (with_reducible refine (cor_c _ u0 (by omega) _).mono ?_); rintro e wc ⟨rfl, hd⟩; replace HR := Aside0.mk (HR.out.drawn hd); clear hd) | (refine HR.out.e2 rfl _ _ _ rfl rfl _ rfl ?hi ?_; (case hi => kernel_rfl); intro wc hR; replace HR := Aside0.mk hR; clear hR))
 first | (go_end0; exact ⟨rfl, HR.out⟩) | ((try simp only [Exit.inBlock, Exit.then]); refine bodyPost_ret (results_none rfl _ _ _) rfl ⟨rfl, HR.out⟩) | (go_ret; exact ⟨rfl, HR.out⟩)
theorem store_3 (h : c.P n st w) (u : Int) (u0 : 0 ≤ u) (u1 : u ≤ 65535) : Calls Tryz.prog 172 #[.pointer (some ⟨c.p, 0, none⟩), .int .i64 3, .int .u16 u] w fun e w' => e = .returned (.tuple #[]) ∧ c.P (n) (st.put 3 u) w' := by
 have HR := Aside0.mk h
 clear h
 have hb := cor_b u0 u1
 have e3 : Go.bits .and .u16 (corI u / 256) 7 = corI u / 256 % 8 := and_7 (by omega) (by omega)
 have e5 : Go.bits .and .u16 (corI u) 4095 = corI u % 4096 := and_4095 (by omega) (by omega)
 have e6 : Go.bits .and .u16 (corI u) 7 = corI u % 8 := and_7 (by omega) (by omega)
 have e7 : IntKind.i64.wrap (corI u / 1024) = corI u / 1024 := wraps64 _ (by omega) (by omega)
 have e8 : wrap64 (corI u / 1024) = corI u / 1024 := by unfold wrap64; omega
 clear hb
 have hu0 := Tryz.underlying97
 have hu1 := Tryz.underlying26
 have hu2 := Tryz.underlying48
 have hu3 := Tryz.underlying64
 have hu4 := Tryz.underlying29
 go_enter Tryz.func172, Tryz.ntmps172
 go_wp2_with (first | (go_at_call 34; (with_reducible refine at_args #[.int .u16 u] ?_); (with_reducible refine (cor_c _ u0 (by omega) _).mono ?_); rintro e wc ⟨rfl, hd⟩; replace HR := Aside0.mk (HR.out.drawn hd); clear hd) | (refine HR.out.e4 rfl _ _ _ rfl rfl _ rfl ?hi ?_; (case hi => kernel_rfl); intro wc hR; replace HR := Aside0.mk hR; clear hR))
 first | (go_end0; exact ⟨rfl, HR.out⟩) | ((try simp only [Exit.inBlock, Exit.then]); refine bodyPost_ret (results_none rfl _ _ _) rfl ⟨rfl, HR.out⟩) | (go_ret; exact ⟨rfl, HR.out⟩)
theorem store_4 (h : c.P n st w) (u : Int) (u0 : 0 ≤ u) (u1 : u ≤ 65535) : Calls Tryz.prog 172 #[.pointer (some ⟨c.p, 0, none⟩), .int .i64 4, .int .u16 u] w fun e w' => e = .returned (.tuple #[]) ∧ c.P (n) (st.put 4 u) w' := by
 have HR := Aside0.mk h
 clear h
 have hb := cor_b u0 u1
 have e3 : Go.bits .and .u16 (corI u / 256) 7 = corI u / 256 % 8 := and_7 (by omega) (by omega)
 have e5 : Go.bits .and .u16 (corI u) 4095 = corI u % 4096 := and_4095 (by omega) (by omega)
 have e6 : Go.bits .and .u16 (corI u) 7 = corI u % 8 := and_7 (by omega) (by omega)
 have e7 : IntKind.i64.wrap (corI u / 1024) = corI u / 1024 := wraps64 _ (by omega) (by omega)
 have e8 : wrap64 (corI u / 1024) = corI u / 1024 := by unfold wrap64; omega
 clear hb
 have hu0 := Tryz.underlying97
 have hu1 := Tryz.underlying26
 have hu2 := Tryz.underlying48
 have hu3 := Tryz.underlying64
 have hu4 := Tryz.underlying29
 go_enter Tryz.func172, Tryz.ntmps172
 go_wp2_with (first | (go_at_call 34; (with_reducible refine at_args #[.int .u16 u] ?_); (with_reducible refine (cor_c _ u0 (by omega) _).mono ?_); rintro e wc ⟨rfl, hd⟩; replace HR := Aside0.mk (HR.out.drawn hd); clear hd) | (refine HR.out.e5 rfl _ _ _ rfl rfl _ rfl ?hi ?_; (case hi => kernel_rfl); intro wc hR; replace HR := Aside0.mk hR; clear hR))
 first | (go_end0; exact ⟨rfl, HR.out⟩) | ((try simp only [Exit.inBlock, Exit.then]); refine bodyPost_ret (results_none rfl _ _ _) rfl ⟨rfl, HR.out⟩) | (go_ret; exact ⟨rfl, HR.out⟩)
theorem store_5 (h : c.P n st w) (u : Int) (u0 : 0 ≤ u) (u1 : u ≤ 65535) : Calls Tryz.prog 172 #[.pointer (some ⟨c.p, 0, none⟩), .int .i64 5, .int .u16 u] w fun e w' => e = .returned (.tuple #[]) ∧ c.P (n) (st.put 5 u) w' := by
 have HR := Aside0.mk h
 clear h
 have hb := cor_b u0 u1
 have e3 : Go.bits .and .u16 (corI u / 256) 7 = corI u / 256 % 8 := and_7 (by omega) (by omega)
 have e5 : Go.bits .and .u16 (corI u) 4095 = corI u % 4096 := and_4095 (by omega) (by omega)
 have e6 : Go.bits .and .u16 (corI u) 7 = corI u % 8 := and_7 (by omega) (by omega)
 have e7 : IntKind.i64.wrap (corI u / 1024) = corI u / 1024 := wraps64 _ (by omega) (by omega)
 have e8 : wrap64 (corI u / 1024) = corI u / 1024 := by unfold wrap64; omega
 clear hb
 have hu0 := Tryz.underlying97
 have hu1 := Tryz.underlying26
 have hu2 := Tryz.underlying48
 have hu3 := Tryz.underlying64
 have hu4 := Tryz.underlying29
 go_enter Tryz.func172, Tryz.ntmps172
 go_wp2_with (first | (go_at_call 34; (with_reducible refine at_args #[.int .u16 u] ?_); (with_reducible refine (cor_c _ u0 (by omega) _).mono ?_); rintro e wc ⟨rfl, hd⟩; replace HR := Aside0.mk (HR.out.drawn hd); clear hd) | (refine HR.out.e3 rfl _ _ _ rfl rfl _ rfl ?hi ?_; (case hi => kernel_rfl); intro wc hR; replace HR := Aside0.mk hR; clear hR))
 first | (go_end0; exact ⟨rfl, HR.out⟩) | ((try simp only [Exit.inBlock, Exit.then]); refine bodyPost_ret (results_none rfl _ _ _) rfl ⟨rfl, HR.out⟩) | (go_ret; exact ⟨rfl, HR.out⟩)
theorem store_6 (h : c.P n st w) (u : Int) (u0 : 0 ≤ u) (u1 : u ≤ 65535) : Calls Tryz.prog 172 #[.pointer (some ⟨c.p, 0, none⟩), .int .i64 6, .int .u16 u] w fun e w' => e = .returned (.tuple #[]) ∧ c.P (n) (st.put 6 u) w' := by
 have HR := Aside0.mk h
 clear h
 have hb := cor_b u0 u1
 have e3 : Go.bits .and .u16 (corI u / 256) 7 = corI u / 256 % 8 := and_7 (by omega) (by omega)
 have e5 : Go.bits .and .u16 (corI u) 4095 = corI u % 4096 := and_4095 (by omega) (by omega)
 have e6 : Go.bits .and .u16 (corI u) 7 = corI u % 8 := and_7 (by omega) (by omega)
 have e7 : IntKind.i64.wrap (corI u / 1024) = corI u / 1024 := wraps64 _ (by omega) (by omega)
 have e8 : wrap64 (corI u / 1024) = corI u / 1024 := by unfold wrap64; omega
 clear hb
 have hu0 := Tryz.underlying97
 have hu1 := Tryz.underlying26
 have hu2 := Tryz.underlying48
 have hu3 := Tryz.underlying64
 have hu4 := Tryz.underlying29
 go_enter Tryz.func172, Tryz.ntmps172
 go_wp2_with (first | (go_at_call 34; (with_reducible refine at_args #[.int .u16 u] ?_); (with_reducible refine (cor_c _ u0 (by omega) _).mono ?_); rintro e wc ⟨rfl, hd⟩; replace HR := Aside0.mk (HR.out.drawn hd); clear hd) | (refine HR.out.e5 rfl _ _ _ rfl rfl _ rfl ?hi ?_; (case hi => kernel_rfl); intro wc hR; replace HR := Aside0.mk hR; clear hR) | (refine HR.out.e4 rfl _ _ _ rfl rfl _ rfl ?hi ?_; (case hi => kernel_rfl); intro wc hR; replace HR := Aside0.mk hR; clear hR))
 first | (go_end0; exact ⟨rfl, HR.out⟩) | ((try simp only [Exit.inBlock, Exit.then]); refine bodyPost_ret (results_none rfl _ _ _) rfl ⟨rfl, HR.out⟩) | (go_ret; exact ⟨rfl, HR.out⟩)
theorem store_7 (h : c.P n st w) (u : Int) (u0 : 0 ≤ u) (u1 : u ≤ 65535) : Calls Tryz.prog 172 #[.pointer (some ⟨c.p, 0, none⟩), .int .i64 7, .int .u16 u] w fun e w' => e = .returned (.tuple #[]) ∧ c.P (n) (st.put 7 u) w' := by
 have HR := Aside0.mk h
 clear h
 have hb := cor_b u0 u1
 have e3 : Go.bits .and .u16 (corI u / 256) 7 = corI u / 256 % 8 := and_7 (by omega) (by omega)
 have e5 : Go.bits .and .u16 (corI u) 4095 = corI u % 4096 := and_4095 (by omega) (by omega)
 have e6 : Go.bits .and .u16 (corI u) 7 = corI u % 8 := and_7 (by omega) (by omega)
 have e7 : IntKind.i64.wrap (corI u / 1024) = corI u / 1024 := wraps64 _ (by omega) (by omega)
 have e8 : wrap64 (corI u / 1024) = corI u / 1024 := by unfold wrap64; omega
 clear hb
 have hu0 := Tryz.underlying97
 have hu1 := Tryz.underlying26
 have hu2 := Tryz.underlying48
 have hu3 := Tryz.underlying64
 have hu4 := Tryz.underlying29
 go_enter Tryz.func172, Tryz.ntmps172
 go_wp2_with (first | (go_at_call 34; (with_reducible refine at_args #[.int .u16 u] ?_); (with_reducible refine (cor_c _ u0 (by omega) _).mono ?_); rintro e wc ⟨rfl, hd⟩; replace HR := Aside0.mk (HR.out.drawn hd); clear hd))
 first | (go_end0; exact ⟨rfl, HR.out⟩) | ((try simp only [Exit.inBlock, Exit.then]); refine bodyPost_ret (results_none rfl _ _ _) rfl ⟨rfl, HR.out⟩) | (go_ret; exact ⟨rfl, HR.out⟩)
theorem RunF.freshC {B : Nat} {w0 w : World} {p T g : Nat} {bo : Option (Array Value)} {cs : Array Value} {vC vO vR : Value} {xc xo : List Cl} {xr : List Sp} (h : RunF B w0 p T g bo cs vC vO vR xc xo xr w) : ∀ k, w.heap.size ≤ k → True ∧ some k ≠ vO.ownBlock := fun k hk => ⟨trivial, fun e => absurd (Kd.R_lt h.ro k e.symm) (by omega)⟩
theorem RunF.freshO {B : Nat} {w0 w : World} {p T g : Nat} {bo : Option (Array Value)} {cs : Array Value} {vC vO vR : Value} {xc xo : List Cl} {xr : List Sp} (h : RunF B w0 p T g bo cs vC vO vR xc xo xr w) : ∀ k, w.heap.size ≤ k → True ∧ some k ≠ vC.ownBlock := fun k hk => ⟨trivial, fun e => absurd (Kd.R_lt h.rc k e.symm) (by omega)⟩
theorem store_d (h : c.P n st w) (i u : Int) (i0 : 8 ≤ i) (u0 : 0 ≤ u) (u1 : u ≤ 65535) (hn : n ≤ 90) : Calls Tryz.prog 172 #[.pointer (some ⟨c.p, 0, none⟩), .int .i64 i, .int .u16 u] w fun e w' => e = .returned (.tuple #[]) ∧ c.P (n + 1) (st.put i u) w' := by
 have HR := Aside0.mk h
 clear h
 have y0 : (i == 0) = false := by simpa using (show i ≠ 0 by omega)
 have y1 : (i == 1) = false := by simpa using (show i ≠ 1 by omega)
 have y2 : (i == 2) = false := by simpa using (show i ≠ 2 by omega)
 have y3 : (i == 3) = false := by simpa using (show i ≠ 3 by omega)
 have y4 : (i == 4) = false := by simpa using (show i ≠ 4 by omega)
 have y5 : (i == 5) = false := by simpa using (show i ≠ 5 by omega)
 have y6 : (i == 6) = false := by simpa using (show i ≠ 6 by omega)
 have y7 : (i == 7) = false := by simpa using (show i ≠ 7 by omega)
 have hu0 := Tryz.underlying97
 have hu1 := Tryz.underlying26
 have hu2 := Tryz.underlying48
 have hu3 := Tryz.underlying64
 have hu4 := Tryz.underlying29
 go_enter Tryz.func172, Tryz.ntmps172
 go_upto_region 2 with (first | (go_at_call 34; (with_reducible refine at_args #[.int .u16 u] ?_); (with_reducible refine (cor_c _ u0 (by omega) _).mono ?_); rintro e wc ⟨rfl, hd⟩; replace HR := Aside0.mk (HR.out.drawn hd); clear hd))
 obtain ⟨⟨vC, vO, vR, hF⟩, hok, hsz⟩ := HR.out
 have HF := Aside0.mk (hF.below (below_drew (Below.refl _ _)))
 have HLEN := Aside0.mk (show (st.cells.length + 1) * 16 ≤ 140737488355328 from by unfold St.sz at hsz; omega)
 clear hF HR
 refine start_ (n := 17) (S := fun w' => w'.cell? ⟨c.p, 13, none⟩ = some vC) (ds := [16]) #[false, false, false, false, false, false, false, false, false, false, false, false, false, false, false, false, false] (by kernel_rfl) rfl rfl ((blk_cell HF.out.blk 13).trans rfl) (fun hHeld => ?_)
 generalize wc.drew = wd at HF hHeld ⊢
 refine pvq_ 0 (some 10) rfl rfl ?_
 refine pvq_ 1 (some 11) rfl rfl ?_
 refine pvq_ 2 (some 12) rfl rfl ?_
 refine pvq_ 3 (some 13) rfl rfl ?_
 refine pvq_ 4 (some 14) rfl rfl ?_
 refine pvq_ 6 (some 16) rfl rfl ?_
 refine pvq_ 7 (some 17) rfl rfl ?_
 refine pvq_ 8 (some 18) rfl rfl ?_
 refine tkq_ 5 (some 15) rfl rfl hHeld ?_
 refine onq_ 9 (some 19) rfl rfl (fun K hK => ?_)
 refine goq_ Tryz.func181 #[.int .i64 i, .int .u16 (corI u)] ?_
 with_reducible refine (edit_c i (corI u) (cor_b u0 u1).1 (by have := (cor_b u0 u1).2; omega) _).mono ?_
 rintro e wc ⟨rfl, hb⟩
 refine ⟨_, rfl, ?_⟩
 replace HF := Aside0.mk (HF.out.below hb)
 clear hb
 refine hK.out _ _ ((blk_cell HF.out.blk 13).trans rfl) (fun hHeld => ?_)
 clear hK K
 refine nmq_ (some 19) ?_
 refine pvq_ 10 (some 20) rfl rfl ?_
 refine onq_ 11 (some 21) rfl rfl (fun K hK => ?_)
 refine Kd.R_lit_step k61 _ 61 ?hg (N := 21) ?hd (xs := ([⟨i, editI i (corI u)⟩] : List Cl)) (inner := [.int .i64 (i), .int .u16 (editI i (corI u))]) (ok := fun _ => True) (okp := fun _ => True) ?hr ?hp (fun _ hk => hk) trivial (Below.refl _ _) (Nat.le_refl _) (by simp) ?_; (case hd => rfl); (case hg => rfl); (case hr => first | (go_simp; done) | (go_simp; rfl)); (case hp => exact (Reps.c2 (show Kd.M k61 _ _ _ (⟨i, editI i (corI u)⟩ : Cl) [.int .i64 (i), .int .u16 (editI i (corI u))] from (k61_mkM _ _ _ (⟨i, editI i (corI u)⟩ : Cl))) (Reps.none _ _)))
 intro vl wl ho hb hg_ hnew_
 clear hg_ hnew_
 obtain ⟨A, k, rfl, hk, hC⟩ := Kd.R_reads ho
 have HC := Aside0.mk hC
 replace HF := Aside0.mk (HF.out.below hb)
 clear ho hb hC
 refine hK.out _ _ ((blk_cell HF.out.blk 13).trans rfl) (fun hHeld => ?_)
 clear hK K
 refine nmq_ (some 21) ?_
 refine onq_ 12 (some 22) rfl rfl (fun K hK => ?_)
 refine Kd.R_append_rows_step k61 (Rr := k61.K wl) (w0 := c.w0) c.w0.heap.size ?hw (.tmp 15) (.tmp 21) 46 61 (.agg #[.int .i64 0, .int .u16 0]) 16 ?ho Tryz.underlying46 infoCell rfl (by decide) (by decide) vC st.cells _ A _ k _ (fun _ => False) ?hs ?hx HF.out.rc HC.out ?hKM (fun _ hk => hk.elim) HF.out.freshC HF.out.hb HF.out.base ?hl ?_
 case hw => rfl
 case ho => rfl
 case hs => rfl
 case hx => rfl
 case hKM => exact fun y cs hy => by obtain rfl := k61_open hy; exact k61_mkM _ _ _ y
 case hl => exact HLEN.out
 intro v1 w1 hr hb hg hat
 obtain ⟨B1, k1, e1, hk1, hC1⟩ := Kd.R_reads hr
 rw [List.length_append] at e1
 subst e1
 replace HF := Aside0.mk (RunF.appC HF.out hr hb hg hat)
 clear hr hb hg hat hk1 hC1
 refine hK.out _ _ ((blk_cell HF.out.blk 13).trans rfl) (fun hHeld => ?_)
 clear hK K
 refine nmq_ (some 22) ?_
 refine pvq_ 13 (some 23) rfl rfl ?_
 refine pvq_ 14 (some 24) rfl rfl ?_
 refine pvq_ 15 (some 25) rfl rfl ?_
 refine laq_ 16 none rfl rfl (fun K hK => ?_)
 refine skip_ (w1 := World.setCell w1 ⟨c.p, 13, none⟩ (.slice B1 (st.cells.length + 1) k1)) (by rfl) rfl ?_ ?_
 · exact run_store_cell _ _ _ rfl c.p 13 rfl (.slice B1 (st.cells.length + 1) k1) rfl vC ((blk_cell HF.out.blk 13).trans rfl) (blk_frozen HF.out.blk 13) rfl rfl (by kernel_rfl)
 replace HF := Aside0.mk (RunF.set HF.out 13 (.slice B1 (st.cells.length + 1) k1))
 generalize World.setCell _ _ _ = wf at HF ⊢
 refine hK.out _ _ ?_
 clear hK K
 refine done_ (by kernel_rfl) ?_
 go_wp2
 first | go_end0 | ((try simp only [Exit.inBlock, Exit.then]); refine bodyPost_ret (results_none rfl _ _ _) rfl ?_)
 refine ⟨rfl, ⟨?_, hok, Nat.le_trans (put_sz _ _ _) (by omega)⟩⟩
 unfold St.put
 rw [if_neg (by omega)]
 exact ⟨(.slice B1 (st.cells.length + 1) k1), vO, vR, HF.out⟩
theorem store_c (h : c.P n st w) (i u : Int) (i0 : 0 ≤ i) (u0 : 0 ≤ u) (u1 : u ≤ 65535) (hn : n ≤ 90) : Calls Tryz.prog 172 #[.pointer (some ⟨c.p, 0, none⟩), .int .i64 i, .int .u16 u] w fun e w' => e = .returned (.tuple #[]) ∧ c.P (n + 1) (st.put i u) w' := by
 have up : ∀ {s : St} {w1 : World}, c.P n s w1 → c.P (n + 1) s w1 := fun h => ⟨h.run, h.ok, by have := h.sz; omega⟩
 by_cases hi : 8 ≤ i
 · exact store_d h i u hi u0 u1 hn
 · have hc : i = 0 ∨ i = 1 ∨ i = 2 ∨ i = 3 ∨ i = 4 ∨ i = 5 ∨ i = 6 ∨ i = 7 := by omega
   rcases hc with rfl | rfl | rfl | rfl | rfl | rfl | rfl | rfl
   · exact (store_0 h u u0 u1).mono fun e w' ⟨he, hp⟩ => ⟨he, up hp⟩
   · exact (store_1 h u u0 u1).mono fun e w' ⟨he, hp⟩ => ⟨he, up hp⟩
   · exact (store_2 h u u0 u1).mono fun e w' ⟨he, hp⟩ => ⟨he, up hp⟩
   · exact (store_3 h u u0 u1).mono fun e w' ⟨he, hp⟩ => ⟨he, up hp⟩
   · exact (store_4 h u u0 u1).mono fun e w' ⟨he, hp⟩ => ⟨he, up hp⟩
   · exact (store_5 h u u0 u1).mono fun e w' ⟨he, hp⟩ => ⟨he, up hp⟩
   · exact (store_6 h u u0 u1).mono fun e w' ⟨he, hp⟩ => ⟨he, up hp⟩
   · exact (store_7 h u u0 u1).mono fun e w' ⟨he, hp⟩ => ⟨he, up hp⟩
end
end Go.Proofs.YthfobpkdloejfaaGreat.Cpu
end
