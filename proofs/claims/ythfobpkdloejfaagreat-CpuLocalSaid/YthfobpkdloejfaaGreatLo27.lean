/- Chapter 5: a part of its proof (cut by program out of CpuI); no condition. -/
import Derived.BigQuiet
import Derived.Deep.QuietTactic
import Derived.Test.YthfobpkdloejfaaGreatLo11
import Derived.Test.YthfobpkdloejfaaGreatLo26
set_option linter.unusedVariables false
set_option linter.unusedSimpArgs false
set_option linter.unusedSectionVars false
set_option maxRecDepth 100000
set_option maxHeartbeats 8000000
section
namespace Go.Proofs.YthfobpkdloejfaaGreat.Cpu
open Go.RowKit Go.Proofs.YthfobpkdloejfaaGreat.PAll Go.Proofs.YthfobpkdloejfaaGreat.One Go.Proofs.YthfobpkdloejfaaGreat.Mem Go.Proofs.YthfobpkdloejfaaGreat.Row Go.Proofs.YthfobpkdloejfaaGreatW.PrintWords Go.Proofs.YthfobpkdloejfaaGreatW.PrintLast Go.Proofs.YthfobpkdloejfaaGreatW.PrintMore Go.Proofs.YthfobpkdloejfaaGreat.Plain
section
variable {c : Cx} {n : Nat} {st : St} {w : World}
theorem rdW_b {st : St} (ok : st.r.Ok) (v : Vw) : 0 ≤ rdW st v ∧ rdW st v < 65536 := by have := rdA_b ok v; have := cor_b (a := rdA st v) (by omega) (by omega); unfold rdW; omega
theorem rdW_b2 {st : St} (ok : st.r.Ok) (v : Vw) : rdW st v ≤ 32767 := by have := rdA_b ok v; have := cor_b (a := rdA st v) (by omega) (by omega); unfold rdW; omega
theorem extend_c (h : c.P n st w) : Calls Tryz.prog 86 #[.pointer (some ⟨c.g, 0, none⟩)] w fun e w' => e = .returned (.tuple #[]) ∧ c.P (n) ({ st with r := { st.r with ext := true } }) w' := by
 have HR := Aside0.mk h
 clear h
 have xb := HR.out.bx
 have hu0 := Tryz.underlying97
 have hu1 := Tryz.underlying26
 have hu2 := Tryz.underlying48
 have hu3 := Tryz.underlying64
 have hu4 := Tryz.underlying29
 go_enter Tryz.func86, Tryz.ntmps86
 go_wp2_with (first | (refine HR.out.e7 rfl _ _ _ rfl rfl _ rfl ?hi ?_; (case hi => kernel_rfl); intro wc hR; replace HR := Aside0.mk hR; clear hR))
 first | (go_end0; exact ⟨rfl, HR.out⟩) | ((try simp only [Exit.inBlock, Exit.then]); refine bodyPost_ret (results_none rfl _ _ _) rfl ⟨rfl, HR.out⟩) | (go_ret; exact ⟨rfl, HR.out⟩)
theorem inhint_c (h : c.P n st w) : Calls Tryz.prog 87 #[.pointer (some ⟨c.g, 0, none⟩)] w fun e w' => e = .returned (.tuple #[]) ∧ c.P (n) ({ st with r := { st.r with inh := true } }) w' := by
 have HR := Aside0.mk h
 clear h
 have xb := HR.out.bx
 have hu0 := Tryz.underlying97
 have hu1 := Tryz.underlying26
 have hu2 := Tryz.underlying48
 have hu3 := Tryz.underlying64
 have hu4 := Tryz.underlying29
 go_enter Tryz.func87, Tryz.ntmps87
 go_wp2_with (first | (refine HR.out.e11 rfl _ _ _ rfl rfl _ rfl ?hi ?_; (case hi => kernel_rfl); intro wc hR; replace HR := Aside0.mk hR; clear hR))
 first | (go_end0; exact ⟨rfl, HR.out⟩) | ((try simp only [Exit.inBlock, Exit.then]); refine bodyPost_ret (results_none rfl _ _ _) rfl ⟨rfl, HR.out⟩) | (go_ret; exact ⟨rfl, HR.out⟩)
theorem relint_c (h : c.P n st w) : Calls Tryz.prog 88 #[.pointer (some ⟨c.g, 0, none⟩)] w fun e w' => e = .returned (.tuple #[]) ∧ c.P (n) ({ st with r := { st.r with inh := false } }) w' := by
 have HR := Aside0.mk h
 clear h
 have xb := HR.out.bx
 have hu0 := Tryz.underlying97
 have hu1 := Tryz.underlying26
 have hu2 := Tryz.underlying48
 have hu3 := Tryz.underlying64
 have hu4 := Tryz.underlying29
 go_enter Tryz.func88, Tryz.ntmps88
 go_wp2_with (first | (refine HR.out.e11 rfl _ _ _ rfl rfl _ rfl ?hi ?_; (case hi => kernel_rfl); intro wc hR; replace HR := Aside0.mk hR; clear hR))
 first | (go_end0; exact ⟨rfl, HR.out⟩) | ((try simp only [Exit.inBlock, Exit.then]); refine bodyPost_ret (results_none rfl _ _ _) rfl ⟨rfl, HR.out⟩) | (go_ret; exact ⟨rfl, HR.out⟩)
theorem ccs_c (h : c.P n st w) (ok : st.r.Ok) (h0 : 0 ≤ st.sp.f1) (hn : n ≤ 80) : Calls Tryz.prog 89 #[.pointer (some ⟨c.p, 0, none⟩)] w fun e w' => e = .returned (.tuple #[]) ∧ c.P (n + 1) (xCcs st c.v) w' := by
 have HR := Aside0.mk h
 clear h
 have hu0 := Tryz.underlying97
 have hu1 := Tryz.underlying26
 have hu2 := Tryz.underlying48
 have hu3 := Tryz.underlying64
 have hu4 := Tryz.underlying29
 go_enter Tryz.func89, Tryz.ntmps89
 go_wp2_with (first | (go_at_call 97; (with_reducible refine at_args #[.pointer (some ⟨c.p, 0, none⟩)] ?_); (with_reducible refine (read_c HR.out ok h0 (by omega)).mono ?_); rintro e wc ⟨rfl, hR⟩; replace HR := Aside0.mk hR; clear hR) | (go_at_call 166; (with_reducible refine at_args #[.int .u16 (rdA st c.v)] ?_); (with_reducible refine (dim_c _ (rdA_b ok c.v).1 (rdA_b ok c.v).2 _).mono ?_); rintro e wc ⟨rfl, hd⟩; replace HR := Aside0.mk (HR.out.drawn hd); clear hd) | (go_at_call 168; (with_reducible refine at_args #[.int .u16 (rdA st c.v)] ?_); (with_reducible refine (cls_c _ (rdA_b ok c.v).1 (rdA_b ok c.v).2 _).mono ?_); rintro e wc ⟨rfl, hd⟩; replace HR := Aside0.mk (HR.out.drawn hd); clear hd) | (refine HR.out.e0 rfl _ _ _ rfl rfl _ rfl ?hi ?_; (case hi => kernel_rfl); intro wc hR; replace HR := Aside0.mk hR; clear hR) | (go_at_call 167; (with_reducible refine at_args #[.pointer (some ⟨c.p, 0, none⟩), .int .i64 (clsI (rdA st c.v))] ?_); (with_reducible refine (skip_c HR.out _ ok.z0 ok.z1 (cls_b _).1 (cls_b _).2).mono ?_); rintro e wc ⟨rfl, hR⟩; replace HR := Aside0.mk hR; clear hR))
 first | (go_end0; exact ⟨rfl, HR.out⟩) | ((try simp only [Exit.inBlock, Exit.then]); refine bodyPost_ret (results_none rfl _ _ _) rfl ⟨rfl, HR.out⟩) | (go_ret; exact ⟨rfl, HR.out⟩)
theorem ca_c (h : c.P n st w) (ok : st.r.Ok) (h0 : 0 ≤ st.sp.f1) (hn : n ≤ 80) : Calls Tryz.prog 96 #[.pointer (some ⟨c.g, 0, none⟩)] w fun e w' => e = .returned (.tuple #[]) ∧ c.P (n + 1) ((st.rd c.v).setA (rdA st c.v)) w' := by
 have HR := Aside0.mk h
 clear h
 have xb := HR.out.bx
 have hu0 := Tryz.underlying97
 have hu1 := Tryz.underlying26
 have hu2 := Tryz.underlying48
 have hu3 := Tryz.underlying64
 have hu4 := Tryz.underlying29
 go_enter Tryz.func96, Tryz.ntmps96
 replace HR := Aside0.mk HR.out.drew
 refine start_ (n := 7) (S := fun w' => w'.cell? ⟨c.g, 0, none⟩ = some (.pointer (some ⟨c.p, 0, none⟩))) (ds := [6]) #[false, false, false, false, false, false, false] (by kernel_rfl) rfl rfl (HR.out.bx) (fun hHeld => ?_)
 generalize w.drew = wd at HR hHeld ⊢
 refine tkq_ 0 (some 1) rfl rfl hHeld ?_
 refine tkq_ 1 (some 2) rfl rfl hHeld ?_
 refine onq_ 2 (some 3) rfl rfl (fun K hK => ?_)
 refine goq_ Tryz.func97 #[.pointer (some ⟨c.p, 0, none⟩)] ?_
 with_reducible refine (read_c HR.out ok h0 (by omega)).mono ?_
 rintro e wc ⟨rfl, hR⟩
 refine ⟨_, rfl, ?_⟩
 replace HR := Aside0.mk hR
 clear hR
 refine hK.out _ _ (HR.out.bx) (fun hHeld => ?_)
 clear hK K
 refine nmq_ (some 3) ?_
 refine pvq_ 3 (some 4) rfl rfl ?_
 refine pvq_ 4 (some 5) rfl rfl ?_
 refine pvq_ 5 (some 6) rfl rfl ?_
 refine laq_ 6 none rfl rfl (fun K hK => ?_)
 refine skip_ (w1 := World.setCell wc ⟨c.p, 0, none⟩ (.int .u16 (rdA st c.v))) (by rfl) rfl ?_ ?_
 · exact run_store_cell _ _ _ rfl c.p 0 rfl (.int .u16 (rdA st c.v)) rfl _ HR.out.c0 (HR.out.fz 0) rfl rfl (by kernel_rfl)
 replace HR := Aside0.mk (HR.out.s0 (rdA st c.v))
 generalize World.setCell _ _ _ = wc at HR ⊢
 refine hK.out _ _ ?_
 clear hK K
 refine done_ (by kernel_rfl) ?_
 go_wp2
 first | (go_end0; exact ⟨rfl, HR.out⟩) | ((try simp only [Exit.inBlock, Exit.then]); refine bodyPost_ret (results_none rfl _ _ _) rfl ⟨rfl, HR.out⟩) | (go_ret; exact ⟨rfl, HR.out⟩)
theorem cs_c (h : c.P n st w) (ok : st.r.Ok) (h0 : 0 ≤ st.sp.f1) (hn : n ≤ 80) : Calls Tryz.prog 98 #[.pointer (some ⟨c.g, 0, none⟩)] w fun e w' => e = .returned (.tuple #[]) ∧ c.P (n + 1) ((st.rd c.v).setA (negAccI (rdA st c.v))) w' := by
 have HR := Aside0.mk h
 clear h
 have xb := HR.out.bx
 have hu0 := Tryz.underlying97
 have hu1 := Tryz.underlying26
 have hu2 := Tryz.underlying48
 have hu3 := Tryz.underlying64
 have hu4 := Tryz.underlying29
 go_enter Tryz.func98, Tryz.ntmps98
 replace HR := Aside0.mk HR.out.drew
 refine start_ (n := 8) (S := fun w' => w'.cell? ⟨c.g, 0, none⟩ = some (.pointer (some ⟨c.p, 0, none⟩))) (ds := [7]) #[false, false, false, false, false, false, false, false] (by kernel_rfl) rfl rfl (HR.out.bx) (fun hHeld => ?_)
 generalize w.drew = wd at HR hHeld ⊢
 refine tkq_ 0 (some 1) rfl rfl hHeld ?_
 refine tkq_ 1 (some 2) rfl rfl hHeld ?_
 refine onq_ 2 (some 3) rfl rfl (fun K hK => ?_)
 refine goq_ Tryz.func97 #[.pointer (some ⟨c.p, 0, none⟩)] ?_
 with_reducible refine (read_c HR.out ok h0 (by omega)).mono ?_
 rintro e wc ⟨rfl, hR⟩
 refine ⟨_, rfl, ?_⟩
 replace HR := Aside0.mk hR
 clear hR
 refine hK.out _ _ (HR.out.bx) (fun hHeld => ?_)
 clear hK K
 refine nmq_ (some 3) ?_
 refine onq_ 3 (some 4) rfl rfl (fun K hK => ?_)
 refine goq_ Tryz.func35 #[.int .u16 (rdA st c.v)] ?_
 with_reducible refine (negAcc_c _ (rdA_b ok c.v).1 (rdA_b ok c.v).2 _).mono ?_
 rintro e wc ⟨rfl, hR⟩
 refine ⟨_, rfl, ?_⟩
 replace HR := Aside0.mk (HR.out.drawn hR)
 clear hR
 refine hK.out _ _ (HR.out.bx) (fun hHeld => ?_)
 clear hK K
 refine nmq_ (some 4) ?_
 refine pvq_ 4 (some 5) rfl rfl ?_
 refine pvq_ 5 (some 6) rfl rfl ?_
 refine pvq_ 6 (some 7) rfl rfl ?_
 refine laq_ 7 none rfl rfl (fun K hK => ?_)
 refine skip_ (w1 := World.setCell wc ⟨c.p, 0, none⟩ (.int .u16 (negAccI (rdA st c.v)))) (by rfl) rfl ?_ ?_
 · exact run_store_cell _ _ _ rfl c.p 0 rfl (.int .u16 (negAccI (rdA st c.v))) rfl _ HR.out.c0 (HR.out.fz 0) rfl rfl (by kernel_rfl)
 replace HR := Aside0.mk (HR.out.s0 (negAccI (rdA st c.v)))
 generalize World.setCell _ _ _ = wc at HR ⊢
 refine hK.out _ _ ?_
 clear hK K
 refine done_ (by kernel_rfl) ?_
 go_wp2
 first | (go_end0; exact ⟨rfl, HR.out⟩) | ((try simp only [Exit.inBlock, Exit.then]); refine bodyPost_ret (results_none rfl _ _ _) rfl ⟨rfl, HR.out⟩) | (go_ret; exact ⟨rfl, HR.out⟩)
theorem index_c (h : c.P n st w) (ok : st.r.Ok) (h0 : 0 ≤ st.sp.f1) (hn : n ≤ 80) : Calls Tryz.prog 99 #[.pointer (some ⟨c.g, 0, none⟩)] w fun e w' => e = .returned (.tuple #[]) ∧ c.P (n + 1) (xIndex st c.v) w' := by
 have HR := Aside0.mk h
 clear h
 have xb := HR.out.bx
 have hu0 := Tryz.underlying97
 have hu1 := Tryz.underlying26
 have hu2 := Tryz.underlying48
 have hu3 := Tryz.underlying64
 have hu4 := Tryz.underlying29
 go_enter Tryz.func99, Tryz.ntmps99
 replace HR := Aside0.mk HR.out.drew
 refine start_ (n := 7) (S := fun w' => w'.cell? ⟨c.g, 0, none⟩ = some (.pointer (some ⟨c.p, 0, none⟩))) (ds := [6]) #[false, false, false, false, false, false, false] (by kernel_rfl) rfl rfl (HR.out.bx) (fun hHeld => ?_)
 generalize w.drew = wd at HR hHeld ⊢
 refine tkq_ 0 (some 1) rfl rfl hHeld ?_
 refine tkq_ 1 (some 2) rfl rfl hHeld ?_
 refine onq_ 2 (some 3) rfl rfl (fun K hK => ?_)
 refine goq_ Tryz.func100 #[.pointer (some ⟨c.p, 0, none⟩)] ?_
 with_reducible refine (word_c HR.out ok h0 (by omega)).mono ?_
 rintro e wc ⟨rfl, hR⟩
 refine ⟨_, rfl, ?_⟩
 replace HR := Aside0.mk hR
 clear hR
 refine hK.out _ _ (HR.out.bx) (fun hHeld => ?_)
 clear hK K
 refine nmq_ (some 3) ?_
 refine pvq_ 3 (some 4) rfl rfl ?_
 refine pvq_ 4 (some 5) rfl rfl ?_
 refine pvq_ 5 (some 6) rfl rfl ?_
 refine laq_ 6 none rfl rfl (fun K hK => ?_)
 refine skip_ (w1 := World.setCell wc ⟨c.p, 8, none⟩ (.int .u16 (rdW st c.v))) (by rfl) rfl ?_ ?_
 · exact run_store_cell _ _ _ rfl c.p 8 rfl (.int .u16 (rdW st c.v)) rfl _ HR.out.c8 (HR.out.fz 8) rfl rfl (by kernel_rfl)
 replace HR := Aside0.mk (HR.out.s8 (rdW st c.v))
 generalize World.setCell _ _ _ = wc at HR ⊢
 refine hK.out _ _ ?_
 clear hK K
 refine done_ (by kernel_rfl) ?_
 go_wp2
 first | (go_end0; exact ⟨rfl, HR.out⟩) | ((try simp only [Exit.inBlock, Exit.then]); refine bodyPost_ret (results_none rfl _ _ _) rfl ⟨rfl, HR.out⟩) | (go_ret; exact ⟨rfl, HR.out⟩)
theorem ad_c (h : c.P n st w) (ok : st.r.Ok) (h0 : 0 ≤ st.sp.f1) (hn : n ≤ 80) : Calls Tryz.prog 106 #[.pointer (some ⟨c.g, 0, none⟩)] w fun e w' => e = .returned (.tuple #[]) ∧ c.P (n + 1) ((st.rd c.v).setA (addAccI st.r.a (rdA st c.v))) w' := by
 have HR := Aside0.mk h
 clear h
 have xb := HR.out.bx
 have hu0 := Tryz.underlying97
 have hu1 := Tryz.underlying26
 have hu2 := Tryz.underlying48
 have hu3 := Tryz.underlying64
 have hu4 := Tryz.underlying29
 go_enter Tryz.func106, Tryz.ntmps106
 replace HR := Aside0.mk HR.out.drew
 refine start_ (n := 13) (S := fun w' => w'.cell? ⟨c.g, 0, none⟩ = some (.pointer (some ⟨c.p, 0, none⟩)) ∧ w'.cell? ⟨c.p, 0, none⟩ = some (.int .u16 st.r.a)) (ds := [12]) #[false, false, false, false, false, false, false, false, false, false, false, false, false] (by kernel_rfl) rfl rfl ⟨HR.out.bx, HR.out.c0⟩ (fun hHeld => ?_)
 generalize w.drew = wd at HR hHeld ⊢
 refine tkq_ 0 (some 1) rfl rfl hHeld ?_
 refine tkq_ 1 (some 2) rfl rfl hHeld ?_
 refine pvq_ 2 (some 3) rfl rfl ?_
 refine pvq_ 3 (some 4) rfl rfl ?_
 refine pvq_ 4 (some 5) rfl rfl ?_
 refine tkq_ 5 (some 6) rfl rfl hHeld ?_
 refine tkq_ 6 (some 7) rfl rfl hHeld ?_
 refine onq_ 7 (some 8) rfl rfl (fun K hK => ?_)
 refine goq_ Tryz.func97 #[.pointer (some ⟨c.p, 0, none⟩)] ?_
 with_reducible refine (read_c HR.out ok h0 (by omega)).mono ?_
 rintro e wc ⟨rfl, hR⟩
 refine ⟨_, rfl, ?_⟩
 replace HR := Aside0.mk hR
 clear hR
 refine hK.out _ _ ⟨HR.out.bx, HR.out.c0⟩ (fun hHeld => ?_)
 clear hK K
 refine nmq_ (some 8) ?_
 refine onq_ 8 (some 9) rfl rfl (fun K hK => ?_)
 refine goq_ Tryz.func107 #[.int .u16 (st.r.a), .int .u16 (rdA st c.v)] ?_
 with_reducible refine (addAcc_c _ _ ok.a0 (by have := ok.a1; omega) (rdA_b ok c.v).1 (rdA_b ok c.v).2 _).mono ?_
 rintro e wc ⟨rfl, hR⟩
 refine ⟨_, rfl, ?_⟩
 replace HR := Aside0.mk (HR.out.drawn hR)
 clear hR
 refine hK.out _ _ ⟨HR.out.bx, HR.out.c0⟩ (fun hHeld => ?_)
 clear hK K
 refine nmq_ (some 9) ?_
 refine pvq_ 9 (some 10) rfl rfl ?_
 refine pvq_ 10 (some 11) rfl rfl ?_
 refine pvq_ 11 (some 12) rfl rfl ?_
 refine laq_ 12 none rfl rfl (fun K hK => ?_)
 refine skip_ (w1 := World.setCell wc ⟨c.p, 0, none⟩ (.int .u16 (addAccI st.r.a (rdA st c.v)))) (by rfl) rfl ?_ ?_
 · exact run_store_cell _ _ _ rfl c.p 0 rfl (.int .u16 (addAccI st.r.a (rdA st c.v))) rfl _ HR.out.c0 (HR.out.fz 0) rfl rfl (by kernel_rfl)
 replace HR := Aside0.mk (HR.out.s0 (addAccI st.r.a (rdA st c.v)))
 generalize World.setCell _ _ _ = wc at HR ⊢
 refine hK.out _ _ ?_
 clear hK K
 refine done_ (by kernel_rfl) ?_
 go_wp2
 first | (go_end0; exact ⟨rfl, HR.out⟩) | ((try simp only [Exit.inBlock, Exit.then]); refine bodyPost_ret (results_none rfl _ _ _) rfl ⟨rfl, HR.out⟩) | (go_ret; exact ⟨rfl, HR.out⟩)
theorem su_c (h : c.P n st w) (ok : st.r.Ok) (h0 : 0 ≤ st.sp.f1) (hn : n ≤ 80) : Calls Tryz.prog 108 #[.pointer (some ⟨c.g, 0, none⟩)] w fun e w' => e = .returned (.tuple #[]) ∧ c.P (n + 1) ((st.rd c.v).setA (addAccI st.r.a (negAccI (rdA st c.v)))) w' := by
 have HR := Aside0.mk h
 clear h
 have xb := HR.out.bx
 have hu0 := Tryz.underlying97
 have hu1 := Tryz.underlying26
 have hu2 := Tryz.underlying48
 have hu3 := Tryz.underlying64
 have hu4 := Tryz.underlying29
 go_enter Tryz.func108, Tryz.ntmps108
 replace HR := Aside0.mk HR.out.drew
 refine start_ (n := 14) (S := fun w' => w'.cell? ⟨c.g, 0, none⟩ = some (.pointer (some ⟨c.p, 0, none⟩)) ∧ w'.cell? ⟨c.p, 0, none⟩ = some (.int .u16 st.r.a)) (ds := [13]) #[false, false, false, false, false, false, false, false, false, false, false, false, false, false] (by kernel_rfl) rfl rfl ⟨HR.out.bx, HR.out.c0⟩ (fun hHeld => ?_)
 generalize w.drew = wd at HR hHeld ⊢
 refine tkq_ 0 (some 1) rfl rfl hHeld ?_
 refine tkq_ 1 (some 2) rfl rfl hHeld ?_
 refine pvq_ 2 (some 3) rfl rfl ?_
 refine pvq_ 3 (some 4) rfl rfl ?_
 refine pvq_ 4 (some 5) rfl rfl ?_
 refine tkq_ 5 (some 6) rfl rfl hHeld ?_
 refine tkq_ 6 (some 7) rfl rfl hHeld ?_
 refine onq_ 7 (some 8) rfl rfl (fun K hK => ?_)
 refine goq_ Tryz.func97 #[.pointer (some ⟨c.p, 0, none⟩)] ?_
 with_reducible refine (read_c HR.out ok h0 (by omega)).mono ?_
 rintro e wc ⟨rfl, hR⟩
 refine ⟨_, rfl, ?_⟩
 replace HR := Aside0.mk hR
 clear hR
 refine hK.out _ _ ⟨HR.out.bx, HR.out.c0⟩ (fun hHeld => ?_)
 clear hK K
 refine nmq_ (some 8) ?_
 refine onq_ 8 (some 9) rfl rfl (fun K hK => ?_)
 refine goq_ Tryz.func35 #[.int .u16 (rdA st c.v)] ?_
 with_reducible refine (negAcc_c _ (rdA_b ok c.v).1 (rdA_b ok c.v).2 _).mono ?_
 rintro e wc ⟨rfl, hR⟩
 refine ⟨_, rfl, ?_⟩
 replace HR := Aside0.mk (HR.out.drawn hR)
 clear hR
 refine hK.out _ _ ⟨HR.out.bx, HR.out.c0⟩ (fun hHeld => ?_)
 clear hK K
 refine nmq_ (some 9) ?_
 refine onq_ 9 (some 10) rfl rfl (fun K hK => ?_)
 refine goq_ Tryz.func107 #[.int .u16 (st.r.a), .int .u16 (negAccI (rdA st c.v))] ?_
 with_reducible refine (addAcc_c _ _ ok.a0 (by have := ok.a1; omega) (by have := rdA_b ok c.v; unfold negAccI; omega) (by have := rdA_b ok c.v; unfold negAccI; omega) _).mono ?_
 rintro e wc ⟨rfl, hR⟩
 refine ⟨_, rfl, ?_⟩
 replace HR := Aside0.mk (HR.out.drawn hR)
 clear hR
 refine hK.out _ _ ⟨HR.out.bx, HR.out.c0⟩ (fun hHeld => ?_)
 clear hK K
 refine nmq_ (some 10) ?_
 refine pvq_ 10 (some 11) rfl rfl ?_
 refine pvq_ 11 (some 12) rfl rfl ?_
 refine pvq_ 12 (some 13) rfl rfl ?_
 refine laq_ 13 none rfl rfl (fun K hK => ?_)
 refine skip_ (w1 := World.setCell wc ⟨c.p, 0, none⟩ (.int .u16 (addAccI st.r.a (negAccI (rdA st c.v))))) (by rfl) rfl ?_ ?_
 · exact run_store_cell _ _ _ rfl c.p 0 rfl (.int .u16 (addAccI st.r.a (negAccI (rdA st c.v)))) rfl _ HR.out.c0 (HR.out.fz 0) rfl rfl (by kernel_rfl)
 replace HR := Aside0.mk (HR.out.s0 (addAccI st.r.a (negAccI (rdA st c.v))))
 generalize World.setCell _ _ _ = wc at HR ⊢
 refine hK.out _ _ ?_
 clear hK K
 refine done_ (by kernel_rfl) ?_
 go_wp2
 first | (go_end0; exact ⟨rfl, HR.out⟩) | ((try simp only [Exit.inBlock, Exit.then]); refine bodyPost_ret (results_none rfl _ _ _) rfl ⟨rfl, HR.out⟩) | (go_ret; exact ⟨rfl, HR.out⟩)
theorem msu_c (h : c.P n st w) (ok : st.r.Ok) (h0 : 0 ≤ st.sp.f1) (hn : n ≤ 80) : Calls Tryz.prog 112 #[.pointer (some ⟨c.g, 0, none⟩)] w fun e w' => e = .returned (.tuple #[]) ∧ c.P (n + 1) ((st.rd c.v).setA (extI (tdI (corI st.r.a) (rdW st c.v)))) w' := by
 have HR := Aside0.mk h
 clear h
 have xb := HR.out.bx
 have hu0 := Tryz.underlying97
 have hu1 := Tryz.underlying26
 have hu2 := Tryz.underlying48
 have hu3 := Tryz.underlying64
 have hu4 := Tryz.underlying29
 go_enter Tryz.func112, Tryz.ntmps112
 replace HR := Aside0.mk HR.out.drew
 refine start_ (n := 7) (S := fun w' => w'.cell? ⟨c.g, 0, none⟩ = some (.pointer (some ⟨c.p, 0, none⟩))) (ds := []) #[false, false, false, false, false, false, false] (by kernel_rfl) rfl rfl (HR.out.bx) (fun hHeld => ?_)
 generalize w.drew = wd at HR hHeld ⊢
 refine tkq_ 0 (some 1) rfl rfl hHeld ?_
 refine tkq_ 1 (some 2) rfl rfl hHeld ?_
 refine tkq_ 3 (some 4) rfl rfl hHeld ?_
 refine onq_ 2 (some 3) rfl rfl (fun K hK => ?_)
 refine goq_ Tryz.func111 #[.pointer (some ⟨c.p, 0, none⟩)] ?_
 with_reducible refine (a_c HR.out ok).mono ?_
 rintro e wc ⟨rfl, hR⟩
 refine ⟨_, rfl, ?_⟩
 replace HR := Aside0.mk hR
 clear hR
 refine hK.out _ _ (HR.out.bx) (fun hHeld => ?_)
 clear hK K
 refine nmq_ (some 3) ?_
 refine onq_ 4 (some 5) rfl rfl (fun K hK => ?_)
 refine goq_ Tryz.func100 #[.pointer (some ⟨c.p, 0, none⟩)] ?_
 with_reducible refine (word_c HR.out ok h0 (by omega)).mono ?_
 rintro e wc ⟨rfl, hR⟩
 refine ⟨_, rfl, ?_⟩
 replace HR := Aside0.mk hR
 clear hR
 refine hK.out _ _ (HR.out.bx) (fun hHeld => ?_)
 clear hK K
 refine nmq_ (some 5) ?_
 refine onq_ 5 (some 6) rfl rfl (fun K hK => ?_)
 refine goq_ Tryz.func113 #[.int .u16 (corI st.r.a), .int .u16 (rdW st c.v)] ?_
 with_reducible refine (td_c _ _ (cor_b ok.a0 ok.a1).1 (by have := (cor_b ok.a0 ok.a1).2; omega) (rdW_b ok c.v).1 (rdW_b ok c.v).2 _).mono ?_
 rintro e wc ⟨rfl, hR⟩
 refine ⟨_, rfl, ?_⟩
 replace HR := Aside0.mk (HR.out.drawn hR)
 clear hR
 refine hK.out _ _ (HR.out.bx) (fun hHeld => ?_)
 clear hK K
 refine nmq_ (some 6) ?_
 refine onq_ 6 (some 7) rfl rfl (fun K hK => ?_)
 refine goq_ Tryz.func110 #[.pointer (some ⟨c.p, 0, none⟩), .int .u16 (tdI (corI st.r.a) (rdW st c.v))] ?_
 with_reducible refine (set_c HR.out _ (td_b _ _).1 (by have := (td_b (corI st.r.a) (rdW st c.v)).2; omega)).mono ?_
 rintro e wc ⟨rfl, hR⟩
 refine ⟨_, rfl, ?_⟩
 replace HR := Aside0.mk hR
 clear hR
 refine hK.out _ _ (HR.out.bx) (fun hHeld => ?_)
 clear hK K
 refine nmq_ (some 7) ?_
 refine done_ (by kernel_rfl) ?_
 go_wp2
 first | (go_end0; exact ⟨rfl, HR.out⟩) | ((try simp only [Exit.inBlock, Exit.then]); refine bodyPost_ret (results_none rfl _ _ _) rfl ⟨rfl, HR.out⟩) | (go_ret; exact ⟨rfl, HR.out⟩)
theorem xch_c (h : c.P n st w) (ok : st.r.Ok) (h0 : 0 ≤ st.sp.f1) (hn : n ≤ 80) : Calls Tryz.prog 105 #[.pointer (some ⟨c.p, 0, none⟩)] w fun e w' => e = .returned (.tuple #[]) ∧ c.P (n + 1 + 1) (xXch st c.v) w' := by
 have HR := Aside0.mk h
 clear h
 have hu0 := Tryz.underlying97
 have hu1 := Tryz.underlying26
 have hu2 := Tryz.underlying48
 have hu3 := Tryz.underlying64
 have hu4 := Tryz.underlying29
 go_enter Tryz.func105, Tryz.ntmps105
 go_upto_region 1 with (first | (go_at_call 97; (with_reducible refine at_args #[.pointer (some ⟨c.p, 0, none⟩)] ?_); (with_reducible refine (read_c HR.out ok h0 (by omega)).mono ?_); rintro e wc ⟨rfl, hR⟩; replace HR := Aside0.mk hR; clear hR))
 replace HR := Aside0.mk HR.out.drew
 refine start_ (n := 12) (S := fun w' => w'.cell? ⟨c.p, 23, none⟩ = some (.int .i64 st.sp.f1) ∧ w'.cell? ⟨c.p, 0, none⟩ = some (.int .u16 st.r.a)) (ds := [11]) #[false, false, false, false, false, false, false, false, false, false, false, false] (by kernel_rfl) rfl rfl ⟨HR.out.c23, HR.out.c0⟩ (fun hHeld => ?_)
 generalize wc.drew = wd at HR hHeld ⊢
 refine pvq_ 0 (some 5) rfl rfl ?_
 refine pvq_ 1 (some 6) rfl rfl ?_
 refine pvq_ 2 (some 7) rfl rfl ?_
 refine pvq_ 3 (some 8) rfl rfl ?_
 refine pvq_ 4 (some 9) rfl rfl ?_
 refine pvq_ 6 (some 11) rfl rfl ?_
 refine pvq_ 7 (some 12) rfl rfl ?_
 refine pvq_ 8 (some 13) rfl rfl ?_
 refine pvq_ 9 (some 14) rfl rfl ?_
 refine tkq_ 5 (some 10) rfl rfl hHeld ?_
 refine tkq_ 10 (some 15) rfl rfl hHeld ?_
 refine laq_ 11 (some 16) rfl rfl (fun K hK => ?_)
 refine goq_ Tryz.func172 #[.pointer (some ⟨c.p, 0, none⟩), .int .i64 st.sp.f1, .int .u16 (st.r.a)] ?_
 with_reducible refine (store_c HR.out _ (st.r.a) h0 ok.a0 ok.a1 (by omega)).mono ?_
 rintro e wc ⟨rfl, hR⟩
 refine ⟨_, rfl, ?_⟩
 replace HR := Aside0.mk hR
 clear hR
 refine hK.out _ _ ?_
 clear hK K
 refine nmq_ (some 16) ?_
 refine done_ (by kernel_rfl) ?_
 go_wp2_with (first | (refine HR.out.e0 rfl _ _ _ rfl rfl _ rfl ?hi ?_; (case hi => kernel_rfl); intro wc hR; replace HR := Aside0.mk hR; clear hR))
 first | (go_end0; exact ⟨rfl, HR.out⟩) | ((try simp only [Exit.inBlock, Exit.then]); refine bodyPost_ret (results_none rfl _ _ _) rfl ⟨rfl, HR.out⟩) | (go_ret; exact ⟨rfl, HR.out⟩)
theorem incr_c (h : c.P n st w) (ok : st.r.Ok) (h0 : 0 ≤ st.sp.f1) (hn : n ≤ 80) : Calls Tryz.prog 94 #[.pointer (some ⟨c.p, 0, none⟩)] w fun e w' => e = .returned (.tuple #[]) ∧ c.P (n + 1 + 1) (xIncr st c.v) w' := by
 have HR := Aside0.mk h
 clear h
 have hu0 := Tryz.underlying97
 have hu1 := Tryz.underlying26
 have hu2 := Tryz.underlying48
 have hu3 := Tryz.underlying64
 have hu4 := Tryz.underlying29
 go_enter Tryz.func94, Tryz.ntmps94
 replace HR := Aside0.mk HR.out.drew
 refine start_ (n := 10) (S := fun w' => w'.cell? ⟨c.p, 23, none⟩ = some (.int .i64 st.sp.f1)) (ds := [9]) #[false, false, false, false, false, false, false, false, false, false] (by kernel_rfl) rfl rfl (HR.out.c23) (fun hHeld => ?_)
 generalize w.drew = wd at HR hHeld ⊢
 refine pvq_ 0 (some 2) rfl rfl ?_
 refine pvq_ 1 (some 3) rfl rfl ?_
 refine pvq_ 2 (some 4) rfl rfl ?_
 refine pvq_ 3 (some 5) rfl rfl ?_
 refine pvq_ 4 (some 6) rfl rfl ?_
 refine pvq_ 6 (some 8) rfl rfl ?_
 refine tkq_ 5 (some 7) rfl rfl hHeld ?_
 refine onq_ 7 (some 9) rfl rfl (fun K hK => ?_)
 refine goq_ Tryz.func97 #[.pointer (some ⟨c.p, 0, none⟩)] ?_
 with_reducible refine (read_c HR.out ok h0 (by omega)).mono ?_
 rintro e wc ⟨rfl, hR⟩
 refine ⟨_, rfl, ?_⟩
 replace HR := Aside0.mk hR
 clear hR
 refine hK.out _ _ (HR.out.c23) (fun hHeld => ?_)
 clear hK K
 refine nmq_ (some 9) ?_
 refine onq_ 8 (some 10) rfl rfl (fun K hK => ?_)
 refine goq_ Tryz.func107 #[.int .u16 (rdA st c.v), .int .u16 (1)] ?_
 with_reducible refine (addAcc_c _ _ (rdA_b ok c.v).1 (rdA_b ok c.v).2 (by decide) (by decide) _).mono ?_
 rintro e wc ⟨rfl, hR⟩
 refine ⟨_, rfl, ?_⟩
 replace HR := Aside0.mk (HR.out.drawn hR)
 clear hR
 refine hK.out _ _ (HR.out.c23) (fun hHeld => ?_)
 clear hK K
 refine nmq_ (some 10) ?_
 refine laq_ 9 (some 11) rfl rfl (fun K hK => ?_)
 refine goq_ Tryz.func172 #[.pointer (some ⟨c.p, 0, none⟩), .int .i64 st.sp.f1, .int .u16 (addAccI (rdA st c.v) 1)] ?_
 with_reducible refine (store_c HR.out _ (addAccI (rdA st c.v) 1) h0 (addAcc_b (rdA_b ok c.v).1 (by have := (rdA_b ok c.v).2; omega) (by decide) (by decide)).1 (addAcc_b (rdA_b ok c.v).1 (by have := (rdA_b ok c.v).2; omega) (by decide) (by decide)).2 (by omega)).mono ?_
 rintro e wc ⟨rfl, hR⟩
 refine ⟨_, rfl, ?_⟩
 replace HR := Aside0.mk hR
 clear hR
 refine hK.out _ _ ?_
 clear hK K
 refine nmq_ (some 11) ?_
 refine done_ (by kernel_rfl) ?_
 go_wp2
 first | (go_end0; exact ⟨rfl, HR.out⟩) | ((try simp only [Exit.inBlock, Exit.then]); refine bodyPost_ret (results_none rfl _ _ _) rfl ⟨rfl, HR.out⟩) | (go_ret; exact ⟨rfl, HR.out⟩)
theorem ads_c (h : c.P n st w) (ok : st.r.Ok) (h0 : 0 ≤ st.sp.f1) (hn : n ≤ 80) : Calls Tryz.prog 95 #[.pointer (some ⟨c.p, 0, none⟩)] w fun e w' => e = .returned (.tuple #[]) ∧ c.P (n + 1 + 1) (xAds st c.v) w' := by
 have HR := Aside0.mk h
 clear h
 have hu0 := Tryz.underlying97
 have hu1 := Tryz.underlying26
 have hu2 := Tryz.underlying48
 have hu3 := Tryz.underlying64
 have hu4 := Tryz.underlying29
 go_enter Tryz.func95, Tryz.ntmps95
 go_upto_region 0 with (first | fail)
 replace HR := Aside0.mk HR.out.drew
 refine start_ (n := 9) (S := fun w' => w'.cell? ⟨c.p, 0, none⟩ = some (.int .u16 st.r.a)) (ds := []) #[false, false, false, false, false, false, false, false, false] (by kernel_rfl) rfl rfl (HR.out.c0) (fun hHeld => ?_)
 generalize w.drew = wd at HR hHeld ⊢
 refine pvq_ 0 (some 3) rfl rfl ?_
 refine pvq_ 1 (some 4) rfl rfl ?_
 refine pvq_ 2 (some 5) rfl rfl ?_
 refine pvq_ 3 (some 6) rfl rfl ?_
 refine pvq_ 5 (some 8) rfl rfl ?_
 refine tkq_ 4 (some 7) rfl rfl hHeld ?_
 refine onq_ 6 (some 9) rfl rfl (fun K hK => ?_)
 refine goq_ Tryz.func97 #[.pointer (some ⟨c.p, 0, none⟩)] ?_
 with_reducible refine (read_c HR.out ok h0 (by omega)).mono ?_
 rintro e wc ⟨rfl, hR⟩
 refine ⟨_, rfl, ?_⟩
 replace HR := Aside0.mk hR
 clear hR
 refine hK.out _ _ (HR.out.c0) (fun hHeld => ?_)
 clear hK K
 refine nmq_ (some 9) ?_
 refine onq_ 7 (some 10) rfl rfl (fun K hK => ?_)
 refine goq_ Tryz.func107 #[.int .u16 (st.r.a), .int .u16 (rdA st c.v)] ?_
 with_reducible refine (addAcc_c _ _ ok.a0 (by have := ok.a1; omega) (rdA_b ok c.v).1 (rdA_b ok c.v).2 _).mono ?_
 rintro e wc ⟨rfl, hR⟩
 refine ⟨_, rfl, ?_⟩
 replace HR := Aside0.mk (HR.out.drawn hR)
 clear hR
 refine hK.out _ _ (HR.out.c0) (fun hHeld => ?_)
 clear hK K
 refine nmq_ (some 10) ?_
 refine pvq_ 8 (some 2) rfl rfl ?_
 refine done_ (by kernel_rfl) ?_
 have x23 : wc.cell? ⟨c.p, 23, none⟩ = some (.int .i64 st.sp.f1) := HR.out.c23
 go_wp2_with (first | (go_at_call 172; (with_reducible refine at_args #[.pointer (some ⟨c.p, 0, none⟩), .int .i64 st.sp.f1, .int .u16 (addAccI st.r.a (rdA st c.v))] ?_); (with_reducible refine (store_c HR.out _ (addAccI st.r.a (rdA st c.v)) h0 (addAcc_b ok.a0 ok.a1 (rdA_b ok c.v).1 (by have := (rdA_b ok c.v).2; omega)).1 (addAcc_b ok.a0 ok.a1 (rdA_b ok c.v).1 (by have := (rdA_b ok c.v).2; omega)).2 (by omega)).mono ?_); rintro e wc ⟨rfl, hR⟩; replace HR := Aside0.mk hR; clear hR) | (refine HR.out.e0 rfl _ _ _ rfl rfl _ rfl ?hi ?_; (case hi => kernel_rfl); intro wc hR; replace HR := Aside0.mk hR; clear hR))
 first | (go_end0; exact ⟨rfl, HR.out⟩) | ((try simp only [Exit.inBlock, Exit.then]); refine bodyPost_ret (results_none rfl _ _ _) rfl ⟨rfl, HR.out⟩) | (go_ret; exact ⟨rfl, HR.out⟩)
theorem exch_l (h : c.P n st w) (ok : st.r.Ok) (h0 : 0 ≤ st.sp.f1) (hn : n ≤ 80) : Calls Tryz.prog 92 #[.pointer (some ⟨c.p, 0, none⟩), .pointer (some ⟨c.p, 1, none⟩)] w fun e w' => e = .returned (.tuple #[]) ∧ c.P (n + 1 + 1) (xLxch st c.v) w' := by
 have HR := Aside0.mk h
 clear h
 have hu0 := Tryz.underlying97
 have hu1 := Tryz.underlying26
 have hu2 := Tryz.underlying48
 have hu3 := Tryz.underlying64
 have hu4 := Tryz.underlying29
 go_enter Tryz.func92, Tryz.ntmps92
 go_upto_region 1 with (first | (go_at_call 100; (with_reducible refine at_args #[.pointer (some ⟨c.p, 0, none⟩)] ?_); (with_reducible refine (word_c HR.out ok h0 (by omega)).mono ?_); rintro e wc ⟨rfl, hR⟩; replace HR := Aside0.mk hR; clear hR))
 replace HR := Aside0.mk HR.out.drew
 refine start_ (n := 11) (S := fun w' => w'.cell? ⟨c.p, 23, none⟩ = some (.int .i64 st.sp.f1) ∧ w'.cell? ⟨c.p, 1, none⟩ = some (.int .u16 st.r.l)) (ds := [10]) #[false, false, false, false, false, false, false, false, false, false, false] (by kernel_rfl) rfl rfl ⟨HR.out.c23, HR.out.c1⟩ (fun hHeld => ?_)
 generalize wc.drew = wd at HR hHeld ⊢
 refine pvq_ 0 (some 7) rfl rfl ?_
 refine pvq_ 1 (some 8) rfl rfl ?_
 refine pvq_ 2 (some 9) rfl rfl ?_
 refine pvq_ 3 (some 10) rfl rfl ?_
 refine pvq_ 4 (some 11) rfl rfl ?_
 refine pvq_ 6 (some 13) rfl rfl ?_
 refine pvq_ 7 (some 14) rfl rfl ?_
 refine tkq_ 5 (some 12) rfl rfl hHeld ?_
 refine tkq_ 8 (some 15) rfl rfl hHeld ?_
 refine onq_ 9 (some 16) rfl rfl (fun K hK => ?_)
 refine goq_ Tryz.func33 #[.int .u16 st.r.l] ?_
 with_reducible refine (ext_c _ ok.l0 (by have := ok.l1; omega) _).mono ?_
 rintro e wc ⟨rfl, hR⟩
 refine ⟨_, rfl, ?_⟩
 replace HR := Aside0.mk (HR.out.drawn hR)
 clear hR
 refine hK.out _ _ ⟨HR.out.c23, HR.out.c1⟩ (fun hHeld => ?_)
 clear hK K
 refine nmq_ (some 16) ?_
 refine laq_ 10 (some 17) rfl rfl (fun K hK => ?_)
 refine goq_ Tryz.func172 #[.pointer (some ⟨c.p, 0, none⟩), .int .i64 st.sp.f1, .int .u16 (extI st.r.l)] ?_
 with_reducible refine (store_c HR.out _ (extI st.r.l) h0 (ext_b _).1 (ext_b _).2 (by omega)).mono ?_
 rintro e wc ⟨rfl, hR⟩
 refine ⟨_, rfl, ?_⟩
 replace HR := Aside0.mk hR
 clear hR
 refine hK.out _ _ ?_
 clear hK K
 refine nmq_ (some 17) ?_
 refine done_ (by kernel_rfl) ?_
 go_wp2_with (first | (refine HR.out.e1 rfl _ _ _ rfl rfl _ rfl ?hi ?_; (case hi => kernel_rfl); intro wc hR; replace HR := Aside0.mk hR; clear hR))
 first | (go_end0; exact ⟨rfl, HR.out⟩) | ((try simp only [Exit.inBlock, Exit.then]); refine bodyPost_ret (results_none rfl _ _ _) rfl ⟨rfl, HR.out⟩) | (go_ret; exact ⟨rfl, HR.out⟩)
theorem lxch_c (h : c.P n st w) (ok : st.r.Ok) (h0 : 0 ≤ st.sp.f1) (hn : n ≤ 80) : Calls Tryz.prog 91 #[.pointer (some ⟨c.g, 0, none⟩)] w fun e w' => e = .returned (.tuple #[]) ∧ c.P (n + 1 + 1) (xLxch st c.v) w' := by
 have HR := Aside0.mk h
 clear h
 have xb := HR.out.bx
 have hu0 := Tryz.underlying97
 have hu1 := Tryz.underlying26
 have hu2 := Tryz.underlying48
 have hu3 := Tryz.underlying64
 have hu4 := Tryz.underlying29
 go_enter Tryz.func91, Tryz.ntmps91
 replace HR := Aside0.mk HR.out.drew
 refine start_ (n := 6) (S := fun w' => w'.cell? ⟨c.g, 0, none⟩ = some (.pointer (some ⟨c.p, 0, none⟩))) (ds := []) #[false, false, false, false, false, false] (by kernel_rfl) rfl rfl (HR.out.bx) (fun hHeld => ?_)
 generalize w.drew = wd at HR hHeld ⊢
 refine tkq_ 0 (some 1) rfl rfl hHeld ?_
 refine tkq_ 1 (some 2) rfl rfl hHeld ?_
 refine pvq_ 2 (some 3) rfl rfl ?_
 refine pvq_ 3 (some 4) rfl rfl ?_
 refine pvq_ 4 (some 5) rfl rfl ?_
 refine onq_ 5 (some 6) rfl rfl (fun K hK => ?_)
 refine goq_ Tryz.func92 #[.pointer (some ⟨c.p, 0, none⟩), .pointer (some ⟨c.p, 1, none⟩)] ?_
 with_reducible refine (exch_l HR.out ok h0 hn).mono ?_
 rintro e wc ⟨rfl, hR⟩
 refine ⟨_, rfl, ?_⟩
 replace HR := Aside0.mk hR
 clear hR
 refine hK.out _ _ (HR.out.bx) (fun hHeld => ?_)
 clear hK K
 refine nmq_ (some 6) ?_
 refine done_ (by kernel_rfl) ?_
 go_wp2
 first | (go_end0; exact ⟨rfl, HR.out⟩) | ((try simp only [Exit.inBlock, Exit.then]); refine bodyPost_ret (results_none rfl _ _ _) rfl ⟨rfl, HR.out⟩) | (go_ret; exact ⟨rfl, HR.out⟩)
theorem exch_q (h : c.P n st w) (ok : st.r.Ok) (h0 : 0 ≤ st.sp.f1) (hn : n ≤ 80) : Calls Tryz.prog 92 #[.pointer (some ⟨c.p, 0, none⟩), .pointer (some ⟨c.p, 2, none⟩)] w fun e w' => e = .returned (.tuple #[]) ∧ c.P (n + 1 + 1) (xQxch st c.v) w' := by
 have HR := Aside0.mk h
 clear h
 have hu0 := Tryz.underlying97
 have hu1 := Tryz.underlying26
 have hu2 := Tryz.underlying48
 have hu3 := Tryz.underlying64
 have hu4 := Tryz.underlying29
 go_enter Tryz.func92, Tryz.ntmps92
 go_upto_region 1 with (first | (go_at_call 100; (with_reducible refine at_args #[.pointer (some ⟨c.p, 0, none⟩)] ?_); (with_reducible refine (word_c HR.out ok h0 (by omega)).mono ?_); rintro e wc ⟨rfl, hR⟩; replace HR := Aside0.mk hR; clear hR))
 replace HR := Aside0.mk HR.out.drew
 refine start_ (n := 11) (S := fun w' => w'.cell? ⟨c.p, 23, none⟩ = some (.int .i64 st.sp.f1) ∧ w'.cell? ⟨c.p, 2, none⟩ = some (.int .u16 st.r.q)) (ds := [10]) #[false, false, false, false, false, false, false, false, false, false, false] (by kernel_rfl) rfl rfl ⟨HR.out.c23, HR.out.c2⟩ (fun hHeld => ?_)
 generalize wc.drew = wd at HR hHeld ⊢
 refine pvq_ 0 (some 7) rfl rfl ?_
 refine pvq_ 1 (some 8) rfl rfl ?_
 refine pvq_ 2 (some 9) rfl rfl ?_
 refine pvq_ 3 (some 10) rfl rfl ?_
 refine pvq_ 4 (some 11) rfl rfl ?_
 refine pvq_ 6 (some 13) rfl rfl ?_
 refine pvq_ 7 (some 14) rfl rfl ?_
 refine tkq_ 5 (some 12) rfl rfl hHeld ?_
 refine tkq_ 8 (some 15) rfl rfl hHeld ?_
 refine onq_ 9 (some 16) rfl rfl (fun K hK => ?_)
 refine goq_ Tryz.func33 #[.int .u16 st.r.q] ?_
 with_reducible refine (ext_c _ ok.q0 (by have := ok.q1; omega) _).mono ?_
 rintro e wc ⟨rfl, hR⟩
 refine ⟨_, rfl, ?_⟩
 replace HR := Aside0.mk (HR.out.drawn hR)
 clear hR
 refine hK.out _ _ ⟨HR.out.c23, HR.out.c2⟩ (fun hHeld => ?_)
 clear hK K
 refine nmq_ (some 16) ?_
 refine laq_ 10 (some 17) rfl rfl (fun K hK => ?_)
 refine goq_ Tryz.func172 #[.pointer (some ⟨c.p, 0, none⟩), .int .i64 st.sp.f1, .int .u16 (extI st.r.q)] ?_
 with_reducible refine (store_c HR.out _ (extI st.r.q) h0 (ext_b _).1 (ext_b _).2 (by omega)).mono ?_
 rintro e wc ⟨rfl, hR⟩
 refine ⟨_, rfl, ?_⟩
 replace HR := Aside0.mk hR
 clear hR
 refine hK.out _ _ ?_
 clear hK K
 refine nmq_ (some 17) ?_
 refine done_ (by kernel_rfl) ?_
 go_wp2_with (first | (refine HR.out.e2 rfl _ _ _ rfl rfl _ rfl ?hi ?_; (case hi => kernel_rfl); intro wc hR; replace HR := Aside0.mk hR; clear hR))
 first | (go_end0; exact ⟨rfl, HR.out⟩) | ((try simp only [Exit.inBlock, Exit.then]); refine bodyPost_ret (results_none rfl _ _ _) rfl ⟨rfl, HR.out⟩) | (go_ret; exact ⟨rfl, HR.out⟩)
theorem qxch_c (h : c.P n st w) (ok : st.r.Ok) (h0 : 0 ≤ st.sp.f1) (hn : n ≤ 80) : Calls Tryz.prog 93 #[.pointer (some ⟨c.g, 0, none⟩)] w fun e w' => e = .returned (.tuple #[]) ∧ c.P (n + 1 + 1) (xQxch st c.v) w' := by
 have HR := Aside0.mk h
 clear h
 have xb := HR.out.bx
 have hu0 := Tryz.underlying97
 have hu1 := Tryz.underlying26
 have hu2 := Tryz.underlying48
 have hu3 := Tryz.underlying64
 have hu4 := Tryz.underlying29
 go_enter Tryz.func93, Tryz.ntmps93
 replace HR := Aside0.mk HR.out.drew
 refine start_ (n := 6) (S := fun w' => w'.cell? ⟨c.g, 0, none⟩ = some (.pointer (some ⟨c.p, 0, none⟩))) (ds := []) #[false, false, false, false, false, false] (by kernel_rfl) rfl rfl (HR.out.bx) (fun hHeld => ?_)
 generalize w.drew = wd at HR hHeld ⊢
 refine tkq_ 0 (some 1) rfl rfl hHeld ?_
 refine tkq_ 1 (some 2) rfl rfl hHeld ?_
 refine pvq_ 2 (some 3) rfl rfl ?_
 refine pvq_ 3 (some 4) rfl rfl ?_
 refine pvq_ 4 (some 5) rfl rfl ?_
 refine onq_ 5 (some 6) rfl rfl (fun K hK => ?_)
 refine goq_ Tryz.func92 #[.pointer (some ⟨c.p, 0, none⟩), .pointer (some ⟨c.p, 2, none⟩)] ?_
 with_reducible refine (exch_q HR.out ok h0 hn).mono ?_
 rintro e wc ⟨rfl, hR⟩
 refine ⟨_, rfl, ?_⟩
 replace HR := Aside0.mk hR
 clear hR
 refine hK.out _ _ (HR.out.bx) (fun hHeld => ?_)
 clear hK K
 refine nmq_ (some 6) ?_
 refine done_ (by kernel_rfl) ?_
 go_wp2
 first | (go_end0; exact ⟨rfl, HR.out⟩) | ((try simp only [Exit.inBlock, Exit.then]); refine bodyPost_ret (results_none rfl _ _ _) rfl ⟨rfl, HR.out⟩) | (go_ret; exact ⟨rfl, HR.out⟩)
theorem chan_b {st : St} (ok : st.r.Ok) (v : Vw) : 0 ≤ st.chan v ∧ st.chan v ≤ 32767 := by
 have := ok.l0; have := ok.l1; have := ok.q0; have := ok.q1; have := ok.s0; have := ok.s1
 unfold St.chan
 repeat' split
 all_goals (first | exact elem_b _ _ | omega)
theorem and_b {a b : Int} (a0 : 0 ≤ a) (a1 : a ≤ 32767) (b0 : 0 ≤ b) (b1 : b ≤ 32767) : 0 ≤ Go.bits .and .u16 a b ∧ Go.bits .and .u16 a b ≤ 32767 := by
 rw [u16_and a b a0 (by omega) b0 (by omega)]
 have : a.toNat &&& b.toNat ≤ a.toNat := Nat.and_le_left
 omega
theorem or_b {a b : Int} (a0 : 0 ≤ a) (a1 : a ≤ 32767) (b0 : 0 ≤ b) (b1 : b ≤ 32767) : 0 ≤ Go.bits .or .u16 a b ∧ Go.bits .or .u16 a b ≤ 32767 := by
 rw [u16_or a b a0 (by omega) b0 (by omega)]
 have : a.toNat ||| b.toNat < 2 ^ 15 := Nat.or_lt_two_pow (by omega) (by omega)
 omega
theorem xor_b {a b : Int} (a0 : 0 ≤ a) (a1 : a ≤ 32767) (b0 : 0 ≤ b) (b1 : b ≤ 32767) : 0 ≤ Go.bits .xor .u16 a b ∧ Go.bits .xor .u16 a b ≤ 32767 := by
 have hx : a.toNat ^^^ b.toNat < 2 ^ 15 := Nat.xor_lt_two_pow (by omega) (by omega)
 have h1 : (BitVec.ofInt 16 a).toNat = a.toNat := by
  rw [show a = ((a.toNat : Nat) : Int) by omega, BitVec.ofInt_natCast, BitVec.toNat_ofNat]; exact Nat.mod_eq_of_lt (by omega)
 have h2 : (BitVec.ofInt 16 b).toNat = b.toNat := by
  rw [show b = ((b.toNat : Nat) : Int) by omega, BitVec.ofInt_natCast, BitVec.toNat_ofNat]; exact Nat.mod_eq_of_lt (by omega)
 have e : Go.bits .xor .u16 a b = ((a.toNat ^^^ b.toNat : Nat) : Int) := by
  show IntKind.u16.wrap ((BitVec.ofInt 16 a ^^^ BitVec.ofInt 16 b).toNat : Int) = _
  rw [BitVec.toNat_xor, h1, h2, IntKind.wrap_u16]
  omega
 rw [e]; omega
theorem mask_c (h : c.P n st w) (ok : st.r.Ok) (h0 : 0 ≤ st.sp.f1) (hn : n ≤ 80) : Calls Tryz.prog 109 #[.pointer (some ⟨c.g, 0, none⟩)] w fun e w' => e = .returned (.tuple #[]) ∧ c.P (n + 1) ((st.rd c.v).setA (extI (Go.bits .and .u16 (corI st.r.a) (rdW st c.v)))) w' := by
 have HR := Aside0.mk h
 clear h
 have xb := HR.out.bx
 have hu0 := Tryz.underlying97
 have hu1 := Tryz.underlying26
 have hu2 := Tryz.underlying48
 have hu3 := Tryz.underlying64
 have hu4 := Tryz.underlying29
 go_enter Tryz.func109, Tryz.ntmps109
 replace HR := Aside0.mk HR.out.drew
 refine start_ (n := 7) (S := fun w' => w'.cell? ⟨c.g, 0, none⟩ = some (.pointer (some ⟨c.p, 0, none⟩))) (ds := []) #[false, false, false, false, false, false, false] (by kernel_rfl) rfl rfl (HR.out.bx) (fun hHeld => ?_)
 generalize w.drew = wd at HR hHeld ⊢
 refine tkq_ 0 (some 1) rfl rfl hHeld ?_
 refine tkq_ 1 (some 2) rfl rfl hHeld ?_
 refine tkq_ 3 (some 4) rfl rfl hHeld ?_
 refine onq_ 2 (some 3) rfl rfl (fun K hK => ?_)
 refine goq_ Tryz.func111 #[.pointer (some ⟨c.p, 0, none⟩)] ?_
 with_reducible refine (a_c HR.out ok).mono ?_
 rintro e wc ⟨rfl, hR⟩
 refine ⟨_, rfl, ?_⟩
 replace HR := Aside0.mk hR
 clear hR
 refine hK.out _ _ (HR.out.bx) (fun hHeld => ?_)
 clear hK K
 refine nmq_ (some 3) ?_
 refine onq_ 4 (some 5) rfl rfl (fun K hK => ?_)
 refine goq_ Tryz.func100 #[.pointer (some ⟨c.p, 0, none⟩)] ?_
 with_reducible refine (word_c HR.out ok h0 (by omega)).mono ?_
 rintro e wc ⟨rfl, hR⟩
 refine ⟨_, rfl, ?_⟩
 replace HR := Aside0.mk hR
 clear hR
 refine hK.out _ _ (HR.out.bx) (fun hHeld => ?_)
 clear hK K
 refine nmq_ (some 5) ?_
 refine pvq_ 5 (some 6) rfl rfl ?_
 refine onq_ 6 (some 7) rfl rfl (fun K hK => ?_)
 refine goq_ Tryz.func110 #[.pointer (some ⟨c.p, 0, none⟩), .int .u16 (Go.bits .and .u16 (corI st.r.a) (rdW st c.v))] ?_
 with_reducible refine (set_c HR.out (Go.bits .and .u16 (corI st.r.a) (rdW st c.v)) (and_b (cor_b ok.a0 ok.a1).1 (cor_b ok.a0 ok.a1).2 (rdW_b ok c.v).1 (rdW_b2 ok c.v)).1 (by have := (and_b (cor_b ok.a0 ok.a1).1 (cor_b ok.a0 ok.a1).2 (rdW_b ok c.v).1 (rdW_b2 ok c.v)).2; omega)).mono ?_
 rintro e wc ⟨rfl, hR⟩
 refine ⟨_, rfl, ?_⟩
 replace HR := Aside0.mk hR
 clear hR
 refine hK.out _ _ (HR.out.bx) (fun hHeld => ?_)
 clear hK K
 refine nmq_ (some 7) ?_
 refine done_ (by kernel_rfl) ?_
 go_wp2
 first | (go_end0; exact ⟨rfl, HR.out⟩) | ((try simp only [Exit.inBlock, Exit.then]); refine bodyPost_ret (results_none rfl _ _ _) rfl ⟨rfl, HR.out⟩) | (go_ret; exact ⟨rfl, HR.out⟩)
theorem read_i (h : c.P n st w) (ok : st.r.Ok) (k0 : 0 ≤ st.k) (hn : n ≤ 80) : Calls Tryz.prog 116 #[.pointer (some ⟨c.g, 0, none⟩)] w fun e w' => e = .returned (.tuple #[]) ∧ c.P (n) (st.setA (extI (st.chan c.v))) w' := by
 have HR := Aside0.mk h
 clear h
 have xb := HR.out.bx
 have hu0 := Tryz.underlying97
 have hu1 := Tryz.underlying26
 have hu2 := Tryz.underlying48
 have hu3 := Tryz.underlying64
 have hu4 := Tryz.underlying29
 go_enter Tryz.func116, Tryz.ntmps116
 replace HR := Aside0.mk HR.out.drew
 refine start_ (n := 4) (S := fun w' => w'.cell? ⟨c.g, 0, none⟩ = some (.pointer (some ⟨c.p, 0, none⟩))) (ds := []) #[false, false, false, false] (by kernel_rfl) rfl rfl (HR.out.bx) (fun hHeld => ?_)
 generalize w.drew = wd at HR hHeld ⊢
 refine tkq_ 0 (some 1) rfl rfl hHeld ?_
 refine tkq_ 1 (some 2) rfl rfl hHeld ?_
 refine onq_ 2 (some 3) rfl rfl (fun K hK => ?_)
 refine goq_ Tryz.func117 #[.pointer (some ⟨c.p, 0, none⟩)] ?_
 with_reducible refine (channel_c HR.out ok k0).mono ?_
 rintro e wc ⟨rfl, hR⟩
 refine ⟨_, rfl, ?_⟩
 replace HR := Aside0.mk hR
 clear hR
 refine hK.out _ _ (HR.out.bx) (fun hHeld => ?_)
 clear hK K
 refine nmq_ (some 3) ?_
 refine onq_ 3 (some 4) rfl rfl (fun K hK => ?_)
 refine goq_ Tryz.func110 #[.pointer (some ⟨c.p, 0, none⟩), .int .u16 (st.chan c.v)] ?_
 with_reducible refine (set_c HR.out (st.chan c.v) (chan_b ok c.v).1 (by have := (chan_b ok c.v).2; omega)).mono ?_
 rintro e wc ⟨rfl, hR⟩
 refine ⟨_, rfl, ?_⟩
 replace HR := Aside0.mk hR
 clear hR
 refine hK.out _ _ (HR.out.bx) (fun hHeld => ?_)
 clear hK K
 refine nmq_ (some 4) ?_
 refine done_ (by kernel_rfl) ?_
 go_wp2
 first | (go_end0; exact ⟨rfl, HR.out⟩) | ((try simp only [Exit.inBlock, Exit.then]); refine bodyPost_ret (results_none rfl _ _ _) rfl ⟨rfl, HR.out⟩) | (go_ret; exact ⟨rfl, HR.out⟩)
theorem write_i (h : c.P n st w) (ok : st.r.Ok) (k0 : 0 ≤ st.k) (hn : n ≤ 80) : Calls Tryz.prog 118 #[.pointer (some ⟨c.g, 0, none⟩)] w fun e w' => e = .returned (.tuple #[]) ∧ c.P (n + 1) (st.out (corI st.r.a)) w' := by
 have HR := Aside0.mk h
 clear h
 have xb := HR.out.bx
 have hu0 := Tryz.underlying97
 have hu1 := Tryz.underlying26
 have hu2 := Tryz.underlying48
 have hu3 := Tryz.underlying64
 have hu4 := Tryz.underlying29
 go_enter Tryz.func118, Tryz.ntmps118
 replace HR := Aside0.mk HR.out.drew
 refine start_ (n := 4) (S := fun w' => w'.cell? ⟨c.g, 0, none⟩ = some (.pointer (some ⟨c.p, 0, none⟩))) (ds := []) #[false, false, false, false] (by kernel_rfl) rfl rfl (HR.out.bx) (fun hHeld => ?_)
 generalize w.drew = wd at HR hHeld ⊢
 refine tkq_ 0 (some 1) rfl rfl hHeld ?_
 refine tkq_ 1 (some 2) rfl rfl hHeld ?_
 refine onq_ 2 (some 3) rfl rfl (fun K hK => ?_)
 refine goq_ Tryz.func111 #[.pointer (some ⟨c.p, 0, none⟩)] ?_
 with_reducible refine (a_c HR.out ok).mono ?_
 rintro e wc ⟨rfl, hR⟩
 refine ⟨_, rfl, ?_⟩
 replace HR := Aside0.mk hR
 clear hR
 refine hK.out _ _ (HR.out.bx) (fun hHeld => ?_)
 clear hK K
 refine nmq_ (some 3) ?_
 refine onq_ 3 (some 4) rfl rfl (fun K hK => ?_)
 refine goq_ Tryz.func119 #[.pointer (some ⟨c.p, 0, none⟩), .int .u16 (corI st.r.a)] ?_
 with_reducible refine (out_c HR.out (corI st.r.a) (cor_b ok.a0 ok.a1).1 (cor_b ok.a0 ok.a1).2 (by omega)).mono ?_
 rintro e wc ⟨rfl, hR⟩
 refine ⟨_, rfl, ?_⟩
 replace HR := Aside0.mk hR
 clear hR
 refine hK.out _ _ (HR.out.bx) (fun hHeld => ?_)
 clear hK K
 refine nmq_ (some 4) ?_
 refine done_ (by kernel_rfl) ?_
 go_wp2
 first | (go_end0; exact ⟨rfl, HR.out⟩) | ((try simp only [Exit.inBlock, Exit.then]); refine bodyPost_ret (results_none rfl _ _ _) rfl ⟨rfl, HR.out⟩) | (go_ret; exact ⟨rfl, HR.out⟩)
theorem rand_i (h : c.P n st w) (ok : st.r.Ok) (k0 : 0 ≤ st.k) (hn : n ≤ 80) : Calls Tryz.prog 120 #[.pointer (some ⟨c.g, 0, none⟩)] w fun e w' => e = .returned (.tuple #[]) ∧ c.P (n) (st.setA (extI (Go.bits .and .u16 (corI st.r.a) (st.chan c.v)))) w' := by
 have HR := Aside0.mk h
 clear h
 have xb := HR.out.bx
 have hu0 := Tryz.underlying97
 have hu1 := Tryz.underlying26
 have hu2 := Tryz.underlying48
 have hu3 := Tryz.underlying64
 have hu4 := Tryz.underlying29
 go_enter Tryz.func120, Tryz.ntmps120
 replace HR := Aside0.mk HR.out.drew
 refine start_ (n := 7) (S := fun w' => w'.cell? ⟨c.g, 0, none⟩ = some (.pointer (some ⟨c.p, 0, none⟩))) (ds := []) #[false, false, false, false, false, false, false] (by kernel_rfl) rfl rfl (HR.out.bx) (fun hHeld => ?_)
 generalize w.drew = wd at HR hHeld ⊢
 refine tkq_ 0 (some 1) rfl rfl hHeld ?_
 refine tkq_ 1 (some 2) rfl rfl hHeld ?_
 refine tkq_ 3 (some 4) rfl rfl hHeld ?_
 refine onq_ 2 (some 3) rfl rfl (fun K hK => ?_)
 refine goq_ Tryz.func111 #[.pointer (some ⟨c.p, 0, none⟩)] ?_
 with_reducible refine (a_c HR.out ok).mono ?_
 rintro e wc ⟨rfl, hR⟩
 refine ⟨_, rfl, ?_⟩
 replace HR := Aside0.mk hR
 clear hR
 refine hK.out _ _ (HR.out.bx) (fun hHeld => ?_)
 clear hK K
 refine nmq_ (some 3) ?_
 refine onq_ 4 (some 5) rfl rfl (fun K hK => ?_)
 refine goq_ Tryz.func117 #[.pointer (some ⟨c.p, 0, none⟩)] ?_
 with_reducible refine (channel_c HR.out ok k0).mono ?_
 rintro e wc ⟨rfl, hR⟩
 refine ⟨_, rfl, ?_⟩
 replace HR := Aside0.mk hR
 clear hR
 refine hK.out _ _ (HR.out.bx) (fun hHeld => ?_)
 clear hK K
 refine nmq_ (some 5) ?_
 refine pvq_ 5 (some 6) rfl rfl ?_
 refine onq_ 6 (some 7) rfl rfl (fun K hK => ?_)
 refine goq_ Tryz.func110 #[.pointer (some ⟨c.p, 0, none⟩), .int .u16 (Go.bits .and .u16 (corI st.r.a) (st.chan c.v))] ?_
 with_reducible refine (set_c HR.out (Go.bits .and .u16 (corI st.r.a) (st.chan c.v)) (and_b (cor_b ok.a0 ok.a1).1 (cor_b ok.a0 ok.a1).2 (chan_b ok c.v).1 (chan_b ok c.v).2).1 (by have := (and_b (cor_b ok.a0 ok.a1).1 (cor_b ok.a0 ok.a1).2 (chan_b ok c.v).1 (chan_b ok c.v).2).2; omega)).mono ?_
 rintro e wc ⟨rfl, hR⟩
 refine ⟨_, rfl, ?_⟩
 replace HR := Aside0.mk hR
 clear hR
 refine hK.out _ _ (HR.out.bx) (fun hHeld => ?_)
 clear hK K
 refine nmq_ (some 7) ?_
 refine done_ (by kernel_rfl) ?_
 go_wp2
 first | (go_end0; exact ⟨rfl, HR.out⟩) | ((try simp only [Exit.inBlock, Exit.then]); refine bodyPost_ret (results_none rfl _ _ _) rfl ⟨rfl, HR.out⟩) | (go_ret; exact ⟨rfl, HR.out⟩)
theorem ror_i (h : c.P n st w) (ok : st.r.Ok) (k0 : 0 ≤ st.k) (hn : n ≤ 80) : Calls Tryz.prog 121 #[.pointer (some ⟨c.g, 0, none⟩)] w fun e w' => e = .returned (.tuple #[]) ∧ c.P (n) (st.setA (extI (Go.bits .or .u16 (corI st.r.a) (st.chan c.v)))) w' := by
 have HR := Aside0.mk h
 clear h
 have xb := HR.out.bx
 have hu0 := Tryz.underlying97
 have hu1 := Tryz.underlying26
 have hu2 := Tryz.underlying48
 have hu3 := Tryz.underlying64
 have hu4 := Tryz.underlying29
 go_enter Tryz.func121, Tryz.ntmps121
 replace HR := Aside0.mk HR.out.drew
 refine start_ (n := 7) (S := fun w' => w'.cell? ⟨c.g, 0, none⟩ = some (.pointer (some ⟨c.p, 0, none⟩))) (ds := []) #[false, false, false, false, false, false, false] (by kernel_rfl) rfl rfl (HR.out.bx) (fun hHeld => ?_)
 generalize w.drew = wd at HR hHeld ⊢
 refine tkq_ 0 (some 1) rfl rfl hHeld ?_
 refine tkq_ 1 (some 2) rfl rfl hHeld ?_
 refine tkq_ 3 (some 4) rfl rfl hHeld ?_
 refine onq_ 2 (some 3) rfl rfl (fun K hK => ?_)
 refine goq_ Tryz.func111 #[.pointer (some ⟨c.p, 0, none⟩)] ?_
 with_reducible refine (a_c HR.out ok).mono ?_
 rintro e wc ⟨rfl, hR⟩
 refine ⟨_, rfl, ?_⟩
 replace HR := Aside0.mk hR
 clear hR
 refine hK.out _ _ (HR.out.bx) (fun hHeld => ?_)
 clear hK K
 refine nmq_ (some 3) ?_
 refine onq_ 4 (some 5) rfl rfl (fun K hK => ?_)
 refine goq_ Tryz.func117 #[.pointer (some ⟨c.p, 0, none⟩)] ?_
 with_reducible refine (channel_c HR.out ok k0).mono ?_
 rintro e wc ⟨rfl, hR⟩
 refine ⟨_, rfl, ?_⟩
 replace HR := Aside0.mk hR
 clear hR
 refine hK.out _ _ (HR.out.bx) (fun hHeld => ?_)
 clear hK K
 refine nmq_ (some 5) ?_
 refine pvq_ 5 (some 6) rfl rfl ?_
 refine onq_ 6 (some 7) rfl rfl (fun K hK => ?_)
 refine goq_ Tryz.func110 #[.pointer (some ⟨c.p, 0, none⟩), .int .u16 (Go.bits .or .u16 (corI st.r.a) (st.chan c.v))] ?_
 with_reducible refine (set_c HR.out (Go.bits .or .u16 (corI st.r.a) (st.chan c.v)) (or_b (cor_b ok.a0 ok.a1).1 (cor_b ok.a0 ok.a1).2 (chan_b ok c.v).1 (chan_b ok c.v).2).1 (by have := (or_b (cor_b ok.a0 ok.a1).1 (cor_b ok.a0 ok.a1).2 (chan_b ok c.v).1 (chan_b ok c.v).2).2; omega)).mono ?_
 rintro e wc ⟨rfl, hR⟩
 refine ⟨_, rfl, ?_⟩
 replace HR := Aside0.mk hR
 clear hR
 refine hK.out _ _ (HR.out.bx) (fun hHeld => ?_)
 clear hK K
 refine nmq_ (some 7) ?_
 refine done_ (by kernel_rfl) ?_
 go_wp2
 first | (go_end0; exact ⟨rfl, HR.out⟩) | ((try simp only [Exit.inBlock, Exit.then]); refine bodyPost_ret (results_none rfl _ _ _) rfl ⟨rfl, HR.out⟩) | (go_ret; exact ⟨rfl, HR.out⟩)
theorem rxor_i (h : c.P n st w) (ok : st.r.Ok) (k0 : 0 ≤ st.k) (hn : n ≤ 80) : Calls Tryz.prog 122 #[.pointer (some ⟨c.g, 0, none⟩)] w fun e w' => e = .returned (.tuple #[]) ∧ c.P (n) (st.setA (extI (Go.bits .xor .u16 (corI st.r.a) (st.chan c.v)))) w' := by
 have HR := Aside0.mk h
 clear h
 have xb := HR.out.bx
 have hu0 := Tryz.underlying97
 have hu1 := Tryz.underlying26
 have hu2 := Tryz.underlying48
 have hu3 := Tryz.underlying64
 have hu4 := Tryz.underlying29
 go_enter Tryz.func122, Tryz.ntmps122
 replace HR := Aside0.mk HR.out.drew
 refine start_ (n := 7) (S := fun w' => w'.cell? ⟨c.g, 0, none⟩ = some (.pointer (some ⟨c.p, 0, none⟩))) (ds := []) #[false, false, false, false, false, false, false] (by kernel_rfl) rfl rfl (HR.out.bx) (fun hHeld => ?_)
 generalize w.drew = wd at HR hHeld ⊢
 refine tkq_ 0 (some 1) rfl rfl hHeld ?_
 refine tkq_ 1 (some 2) rfl rfl hHeld ?_
 refine tkq_ 3 (some 4) rfl rfl hHeld ?_
 refine onq_ 2 (some 3) rfl rfl (fun K hK => ?_)
 refine goq_ Tryz.func111 #[.pointer (some ⟨c.p, 0, none⟩)] ?_
 with_reducible refine (a_c HR.out ok).mono ?_
 rintro e wc ⟨rfl, hR⟩
 refine ⟨_, rfl, ?_⟩
 replace HR := Aside0.mk hR
 clear hR
 refine hK.out _ _ (HR.out.bx) (fun hHeld => ?_)
 clear hK K
 refine nmq_ (some 3) ?_
 refine onq_ 4 (some 5) rfl rfl (fun K hK => ?_)
 refine goq_ Tryz.func117 #[.pointer (some ⟨c.p, 0, none⟩)] ?_
 with_reducible refine (channel_c HR.out ok k0).mono ?_
 rintro e wc ⟨rfl, hR⟩
 refine ⟨_, rfl, ?_⟩
 replace HR := Aside0.mk hR
 clear hR
 refine hK.out _ _ (HR.out.bx) (fun hHeld => ?_)
 clear hK K
 refine nmq_ (some 5) ?_
 refine pvq_ 5 (some 6) rfl rfl ?_
 refine onq_ 6 (some 7) rfl rfl (fun K hK => ?_)
 refine goq_ Tryz.func110 #[.pointer (some ⟨c.p, 0, none⟩), .int .u16 (Go.bits .xor .u16 (corI st.r.a) (st.chan c.v))] ?_
 with_reducible refine (set_c HR.out (Go.bits .xor .u16 (corI st.r.a) (st.chan c.v)) (xor_b (cor_b ok.a0 ok.a1).1 (cor_b ok.a0 ok.a1).2 (chan_b ok c.v).1 (chan_b ok c.v).2).1 (by have := (xor_b (cor_b ok.a0 ok.a1).1 (cor_b ok.a0 ok.a1).2 (chan_b ok c.v).1 (chan_b ok c.v).2).2; omega)).mono ?_
 rintro e wc ⟨rfl, hR⟩
 refine ⟨_, rfl, ?_⟩
 replace HR := Aside0.mk hR
 clear hR
 refine hK.out _ _ (HR.out.bx) (fun hHeld => ?_)
 clear hK K
 refine nmq_ (some 7) ?_
 refine done_ (by kernel_rfl) ?_
 go_wp2
 first | (go_end0; exact ⟨rfl, HR.out⟩) | ((try simp only [Exit.inBlock, Exit.then]); refine bodyPost_ret (results_none rfl _ _ _) rfl ⟨rfl, HR.out⟩) | (go_ret; exact ⟨rfl, HR.out⟩)
theorem wand_i (h : c.P n st w) (ok : st.r.Ok) (k0 : 0 ≤ st.k) (hn : n ≤ 80) : Calls Tryz.prog 123 #[.pointer (some ⟨c.g, 0, none⟩)] w fun e w' => e = .returned (.tuple #[]) ∧ c.P (n + 1) (xBoth st (Go.bits .and .u16 (corI st.r.a) (st.chan c.v))) w' := by
 have HR := Aside0.mk h
 clear h
 have xb := HR.out.bx
 have hu0 := Tryz.underlying97
 have hu1 := Tryz.underlying26
 have hu2 := Tryz.underlying48
 have hu3 := Tryz.underlying64
 have hu4 := Tryz.underlying29
 go_enter Tryz.func123, Tryz.ntmps123
 replace HR := Aside0.mk HR.out.drew
 refine start_ (n := 7) (S := fun w' => w'.cell? ⟨c.g, 0, none⟩ = some (.pointer (some ⟨c.p, 0, none⟩))) (ds := []) #[false, false, false, false, false, false, false] (by kernel_rfl) rfl rfl (HR.out.bx) (fun hHeld => ?_)
 generalize w.drew = wd at HR hHeld ⊢
 refine tkq_ 0 (some 1) rfl rfl hHeld ?_
 refine tkq_ 1 (some 2) rfl rfl hHeld ?_
 refine tkq_ 3 (some 4) rfl rfl hHeld ?_
 refine onq_ 2 (some 3) rfl rfl (fun K hK => ?_)
 refine goq_ Tryz.func111 #[.pointer (some ⟨c.p, 0, none⟩)] ?_
 with_reducible refine (a_c HR.out ok).mono ?_
 rintro e wc ⟨rfl, hR⟩
 refine ⟨_, rfl, ?_⟩
 replace HR := Aside0.mk hR
 clear hR
 refine hK.out _ _ (HR.out.bx) (fun hHeld => ?_)
 clear hK K
 refine nmq_ (some 3) ?_
 refine onq_ 4 (some 5) rfl rfl (fun K hK => ?_)
 refine goq_ Tryz.func117 #[.pointer (some ⟨c.p, 0, none⟩)] ?_
 with_reducible refine (channel_c HR.out ok k0).mono ?_
 rintro e wc ⟨rfl, hR⟩
 refine ⟨_, rfl, ?_⟩
 replace HR := Aside0.mk hR
 clear hR
 refine hK.out _ _ (HR.out.bx) (fun hHeld => ?_)
 clear hK K
 refine nmq_ (some 5) ?_
 refine pvq_ 5 (some 6) rfl rfl ?_
 refine onq_ 6 (some 7) rfl rfl (fun K hK => ?_)
 refine goq_ Tryz.func124 #[.pointer (some ⟨c.p, 0, none⟩), .int .u16 (Go.bits .and .u16 (corI st.r.a) (st.chan c.v))] ?_
 with_reducible refine (both_c HR.out (Go.bits .and .u16 (corI st.r.a) (st.chan c.v)) (and_b (cor_b ok.a0 ok.a1).1 (cor_b ok.a0 ok.a1).2 (chan_b ok c.v).1 (chan_b ok c.v).2).1 (and_b (cor_b ok.a0 ok.a1).1 (cor_b ok.a0 ok.a1).2 (chan_b ok c.v).1 (chan_b ok c.v).2).2 (by omega)).mono ?_
 rintro e wc ⟨rfl, hR⟩
 refine ⟨_, rfl, ?_⟩
 replace HR := Aside0.mk hR
 clear hR
 refine hK.out _ _ (HR.out.bx) (fun hHeld => ?_)
 clear hK K
 refine nmq_ (some 7) ?_
 refine done_ (by kernel_rfl) ?_
 go_wp2
 first | (go_end0; exact ⟨rfl, HR.out⟩) | ((try simp only [Exit.inBlock, Exit.then]); refine bodyPost_ret (results_none rfl _ _ _) rfl ⟨rfl, HR.out⟩) | (go_ret; exact ⟨rfl, HR.out⟩)
theorem wor_i (h : c.P n st w) (ok : st.r.Ok) (k0 : 0 ≤ st.k) (hn : n ≤ 80) : Calls Tryz.prog 125 #[.pointer (some ⟨c.g, 0, none⟩)] w fun e w' => e = .returned (.tuple #[]) ∧ c.P (n + 1) (xBoth st (Go.bits .or .u16 (corI st.r.a) (st.chan c.v))) w' := by
 have HR := Aside0.mk h
 clear h
 have xb := HR.out.bx
 have hu0 := Tryz.underlying97
 have hu1 := Tryz.underlying26
 have hu2 := Tryz.underlying48
 have hu3 := Tryz.underlying64
 have hu4 := Tryz.underlying29
 go_enter Tryz.func125, Tryz.ntmps125
 replace HR := Aside0.mk HR.out.drew
 refine start_ (n := 7) (S := fun w' => w'.cell? ⟨c.g, 0, none⟩ = some (.pointer (some ⟨c.p, 0, none⟩))) (ds := []) #[false, false, false, false, false, false, false] (by kernel_rfl) rfl rfl (HR.out.bx) (fun hHeld => ?_)
 generalize w.drew = wd at HR hHeld ⊢
 refine tkq_ 0 (some 1) rfl rfl hHeld ?_
 refine tkq_ 1 (some 2) rfl rfl hHeld ?_
 refine tkq_ 3 (some 4) rfl rfl hHeld ?_
 refine onq_ 2 (some 3) rfl rfl (fun K hK => ?_)
 refine goq_ Tryz.func111 #[.pointer (some ⟨c.p, 0, none⟩)] ?_
 with_reducible refine (a_c HR.out ok).mono ?_
 rintro e wc ⟨rfl, hR⟩
 refine ⟨_, rfl, ?_⟩
 replace HR := Aside0.mk hR
 clear hR
 refine hK.out _ _ (HR.out.bx) (fun hHeld => ?_)
 clear hK K
 refine nmq_ (some 3) ?_
 refine onq_ 4 (some 5) rfl rfl (fun K hK => ?_)
 refine goq_ Tryz.func117 #[.pointer (some ⟨c.p, 0, none⟩)] ?_
 with_reducible refine (channel_c HR.out ok k0).mono ?_
 rintro e wc ⟨rfl, hR⟩
 refine ⟨_, rfl, ?_⟩
 replace HR := Aside0.mk hR
 clear hR
 refine hK.out _ _ (HR.out.bx) (fun hHeld => ?_)
 clear hK K
 refine nmq_ (some 5) ?_
 refine pvq_ 5 (some 6) rfl rfl ?_
 refine onq_ 6 (some 7) rfl rfl (fun K hK => ?_)
 refine goq_ Tryz.func124 #[.pointer (some ⟨c.p, 0, none⟩), .int .u16 (Go.bits .or .u16 (corI st.r.a) (st.chan c.v))] ?_
 with_reducible refine (both_c HR.out (Go.bits .or .u16 (corI st.r.a) (st.chan c.v)) (or_b (cor_b ok.a0 ok.a1).1 (cor_b ok.a0 ok.a1).2 (chan_b ok c.v).1 (chan_b ok c.v).2).1 (or_b (cor_b ok.a0 ok.a1).1 (cor_b ok.a0 ok.a1).2 (chan_b ok c.v).1 (chan_b ok c.v).2).2 (by omega)).mono ?_
 rintro e wc ⟨rfl, hR⟩
 refine ⟨_, rfl, ?_⟩
 replace HR := Aside0.mk hR
 clear hR
 refine hK.out _ _ (HR.out.bx) (fun hHeld => ?_)
 clear hK K
 refine nmq_ (some 7) ?_
 refine done_ (by kernel_rfl) ?_
 go_wp2
 first | (go_end0; exact ⟨rfl, HR.out⟩) | ((try simp only [Exit.inBlock, Exit.then]); refine bodyPost_ret (results_none rfl _ _ _) rfl ⟨rfl, HR.out⟩) | (go_ret; exact ⟨rfl, HR.out⟩)
end
end Go.Proofs.YthfobpkdloejfaaGreat.Cpu
end
