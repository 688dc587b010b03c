/- Chapter 5: a part of its proof (cut by program out of CpuLL); no condition. -/
import Derived.BigQuiet
import Derived.Deep.QuietTactic
import Derived.Test.YthfobpkdloejfaaGreatLo13
import Derived.Test.YthfobpkdloejfaaGreatLo20
import Derived.Test.YthfobpkdloejfaaGreatLo23
import Derived.Test.YthfobpkdloejfaaGreatLo43
import Derived.Test.YthfobpkdloejfaaGreatLo45
set_option linter.unusedVariables false
set_option linter.unusedSimpArgs false
set_option linter.unusedSectionVars false
set_option maxRecDepth 100000
set_option maxHeartbeats 8000000
section
namespace Go.Proofs.YthfobpkdloejfaaGreat.Cpu
open Go.RowKit Go.Proofs.YthfobpkdloejfaaGreat.PAll Go.Proofs.YthfobpkdloejfaaGreat.One Go.Proofs.YthfobpkdloejfaaGreat.Mem Go.Proofs.YthfobpkdloejfaaGreat.Row Go.Proofs.YthfobpkdloejfaaGreatW.PrintWords Go.Proofs.YthfobpkdloejfaaGreatW.PrintLast Go.Proofs.YthfobpkdloejfaaGreatW.PrintMore Go.Proofs.YthfobpkdloejfaaGreat.Plain
attribute [local go_sem high] eqA64
attribute [local go_sem high] eqA61
theorem infoWord6 : (Tryz.prog.info? 24).map (fun i => (i.zero, i.size, i.bytes)) = some (some (.int .u16 0), 1, 2) := by kernel_rfl
theorem rdT_mem {l : List Cl} {i : Int} (h0 : 0 ≤ i) (h1 : i < (l.length : Int)) : rd_T61 l i ∈ l := by
 unfold rd_T61
 have h : i.toNat < l.length := by omega
 rw [List.getD_eq_getElem?_getD, List.getElem?_eq_getElem h]
 exact List.getElem_mem h
theorem wl {i n : Int} (h0 : 0 ≤ i) (h1 : i < n) (hn : n ≤ 9223372036854775807) : wrap64 (i + 1) = i + 1 := by unfold wrap64; omega
theorem cells_self (l : List Cl) (hm : (l.length : Int) ≤ 9223372036854775807) : ∃ k, perilunelaw05_cells.f k l l = some true := by
 have h : ∀ d : Nat, ∀ i : Int, 0 ≤ i → i + d = l.length → perilunelaw05_cells.l0 (2 * d + 2) l l i = some true := by
  intro d
  induction d with
  | zero =>
   intro i i0 hi
   have c : ¬ i < (l.length : Int) := by omega
   simp [perilunelaw05_cells.l0, perilunelaw05_cells.j1, c]
  | succ d ih =>
   intro i i0 hi
   have c : i < (l.length : Int) := by omega
   have e := ih (i + 1) (by omega) (by omega)
   rw [show 2 * (d + 1) + 2 = (2 * d + 2) + 1 + 1 from by omega]
   rw [perilunelaw05_cells.l0, if_pos c, perilunelaw05_cells.j1]
   simp only [c, i0, decide_true, if_true, beq_self_eq_true, Bool.not_true, Bool.or_self, Bool.false_eq_true, if_false, wl i0 c hm]
   exact e
 exact ⟨_, h l.length 0 (by omega) (by omega)⟩
theorem app_b {m l : List Int} {y i : Int} (h : (l.length : Int) = i ∧ rngL l) (y0 : 0 ≤ y) (hm : rngL m) (h0 : 0 ≤ i) : (((l ++ [IntKind.u16.wrap (rd m i + y)]).length : Nat) : Int) = i + 1 ∧ rngL (l ++ [IntKind.u16.wrap (rd m i + y)]) := by
 refine ⟨by rw [List.length_append]; simp; omega, fun k => ?_⟩
 have b := addW_b (rd m i) y
 have hk := h.2 k
 unfold rd at hk ⊢
 rw [List.getD_eq_getElem?_getD] at hk ⊢
 by_cases c : k.toNat < l.length
 · rw [List.getElem?_append_left c]; exact hk
 · rw [List.getElem?_append_right (by omega)]
   cases k.toNat - l.length with
   | zero => exact b
   | succ n => exact ⟨by simp, by simp⟩
theorem rdS_mem {l : List Sp} {i : Int} (h0 : 0 ≤ i) (h1 : i < (l.length : Int)) : rd_T64 l i ∈ l := by
 unfold rd_T64
 have h : i.toNat < l.length := by omega
 rw [List.getD_eq_getElem?_getD, List.getElem?_eq_getElem h]
 exact List.getElem_mem h
theorem R_someq {W : World} {B n c : Nat} {ok : Nat → Prop} {A : Option Addr} {xs : List Int} (h : Kd.R (Kd.int .u16) 24 W B ok (.slice A n c) xs) (hx : 0 < n) : ∃ g, A = some ⟨g, 0, none⟩ := by
 have e := (Kd.R_reads' h).1
 subst e
 exact R_some h hx
theorem R_apart2 {W : World} {B : Nat} {vE vF : Value} {lE lF : List Int} (hE : Kd.R (Kd.int .u16) 24 W B (fun k => True ∧ some k ≠ vF.ownBlock) vE lE) (hF : Kd.R (Kd.int .u16) 24 W B (fun _ => True) vF lF) : Kd.R (Kd.int .u16) 24 W B (fun k => True ∧ some k ≠ vE.ownBlock) vF lF :=
 ⟨fun k hk => ⟨trivial, fun e => (hE.1 k e.symm).2 hk.symm⟩, hF.2⟩
theorem own_cell_v {W : World} {B n c g : Nat} {ok : Nat → Prop} {xs : List Int} (hR : Kd.R (Kd.int .u16) 24 W B ok (.slice (some ⟨g, 0, none⟩) n c) xs) (i : Int) (h0 : 0 ≤ i) (h1 : i < (n : Int)) : ∃ old, W.cell? ⟨g, i.toNat, none⟩ = some old ∧ W.frozen? ⟨g, i.toNat, none⟩ = false := by
 obtain rfl := (Kd.R_reads' hR).1
 have h := Kd.R_cell (enc := Value.int .u16) (h1 := fun _ => rfl) (0 : Int) hR i h0 h1
 exact ⟨_, h.1, h.2⟩
theorem step_g {A0 A1 A2 : Option Addr} {q0 q1 q2 k0 k1 k2 : Nat} (r : Rg) (m0 m1 m2 : List Int) (s : St) (w : World) (e0 : m0.length = q0) (e1 : m1.length = q1) (e2 : m2.length = q2) (hv : VwAt w A0 A1 A2 ⟨m0, m1, m2⟩) (g0 : q0 ≤ k0) (g1 : q1 ≤ k1) (g2 : q2 ≤ k2) (hk : r.Kinds) (he : sErr r ⟨m0, m1, m2⟩ = 0) (hs : stepN r ⟨m0, m1, m2⟩ = s) :
 Calls Tryz.prog 21 #[.agg #[.int .u16 r.a, .int .u16 r.l, .int .u16 r.q, .int .i64 r.z, .int .i64 r.eb, .int .i64 r.fb, .int .i64 r.su, .bool r.ext, .int .u16 r.idx, .bool r.held, .int .u16 r.b, .bool r.inh, .bool r.srv], .agg #[.slice A0 q0 k0, .slice A1 q1 k1, .slice A2 q2 k2]] w fun e w' => ∃ vC vO vR : Value, e = .returned (.tuple #[.agg #[.int .u16 (s).r.a, .int .u16 (s).r.l, .int .u16 (s).r.q, .int .i64 (s).r.z, .int .i64 (s).r.eb, .int .i64 (s).r.fb, .int .i64 (s).r.su, .bool (s).r.ext, .int .u16 (s).r.idx, .bool (s).r.held, .int .u16 (s).r.b, .bool (s).r.inh, .bool (s).r.srv], .agg #[vC, vO, vR, .int .i64 (s).cyc, .int .u8 (s).op], .int .i64 0]) ∧ Kd.R k61 61 w' w.heap.size (fun k => some k ≠ vO.ownBlock) vC (s).cells ∧ Kd.R k61 61 w' w.heap.size (fun k => some k ≠ vC.ownBlock) vO (s).outs ∧ Kd.R k64 64 w' w.heap.size (fun _ => True) vR (s).reads ∧ Below w.heap.size w w' := by
 subst e0; subst e1; subst e2; subst hs
 exact step_c w hv g0 g1 g2 hk he
theorem step_h {A0 A1 A2 : Option Addr} {q0 q1 q2 k0 k1 k2 : Nat} (r : Rg) (m0 m1 m2 : List Int) (w : World) (e0 : m0.length = q0) (e1 : m1.length = q1) (e2 : m2.length = q2) (hv : VwAt w A0 A1 A2 ⟨m0, m1, m2⟩) (g0 : q0 ≤ k0) (g1 : q1 ≤ k1) (g2 : q2 ≤ k2) (hk : r.Kinds) (he : sErr r ⟨m0, m1, m2⟩ ≠ 0) :
 Calls Tryz.prog 21 #[.agg #[.int .u16 r.a, .int .u16 r.l, .int .u16 r.q, .int .i64 r.z, .int .i64 r.eb, .int .i64 r.fb, .int .i64 r.su, .bool r.ext, .int .u16 r.idx, .bool r.held, .int .u16 r.b, .bool r.inh, .bool r.srv], .agg #[.slice A0 q0 k0, .slice A1 q1 k1, .slice A2 q2 k2]] w fun e w' => e = .returned (.tuple #[.agg #[.int .u16 0, .int .u16 0, .int .u16 0, .int .i64 0, .int .i64 0, .int .i64 0, .int .i64 0, .bool false, .int .u16 0, .bool false, .int .u16 0, .bool false, .bool false], .agg #[.slice none 0 0, .slice none 0 0, .slice none 0 0, .int .i64 0, .int .u8 0], .int .i64 (sErr r ⟨m0, m1, m2⟩)]) ∧ Below w.heap.size w w' := by
 subst e0; subst e1; subst e2
 exact step_e w hv g0 g1 g2 hk he
theorem local_er (r : Rg) (hk : r.Kinds) (m0 m1 m2 : List Int) (y : Int) (y0 : 0 ≤ y) (y1 : y < 65536) (A0 A1 A2 : Option Addr) (n0 n1 n2 q0 q1 q2 k0 k1 k2 : Nat) (j0 j1 j2 : Int) (w : World) (HV : Aside0 (VwAt w A0 A1 A2 ⟨m0, m1, m2⟩)) (e0 : m0.length = q0) (e1 : m1.length = q1) (e2 : m2.length = q2) (g0 : q0 ≤ k0) (g1 : q1 ≤ k1) (g2 : q2 ≤ k2) (l0 : q0 ≤ 2048) (l1 : q1 ≤ 36864) (l2 : q2 ≤ 512) (hj0 : (if 2048 < (n0 : Int) then 2048 else (n0 : Int)) = j0) (a0 : 0 ≤ j0) (b0 : j0 ≤ n0) (hcut0 : ∀ W : World, (Instr.slice 27 (.slice A0 n0 k0) none (some (.int .i64 j0)) none).run Tryz.prog W = .ok (.slice A0 q0 k0) W) (hj1 : (if 36864 < (n1 : Int) then 36864 else (n1 : Int)) = j1) (a1 : 0 ≤ j1) (b1 : j1 ≤ n1) (hcut1 : ∀ W : World, (Instr.slice 27 (.slice A1 n1 k1) none (some (.int .i64 j1)) none).run Tryz.prog W = .ok (.slice A1 q1 k1) W) (hj2 : (if 512 < (n2 : Int) then 512 else (n2 : Int)) = j2) (a2 : 0 ≤ j2) (b2 : j2 ≤ n2) (hcut2 : ∀ W : World, (Instr.slice 27 (.slice A2 n2 k2) none (some (.int .i64 j2)) none).run Tryz.prog W = .ok (.slice A2 q2 k2) W) (he : sErr r ⟨m0, m1, m2⟩ ≠ 0) : Calls Tryz.prog 8 #[.agg #[.int .u16 r.a, .int .u16 r.l, .int .u16 r.q, .int .i64 r.z, .int .i64 r.eb, .int .i64 r.fb, .int .i64 r.su, .bool r.ext, .int .u16 r.idx, .bool r.held, .int .u16 r.b, .bool r.inh, .bool r.srv], .agg #[.slice A0 n0 k0, .slice A1 n1 k1, .slice A2 n2 k2], .int .u16 y] w fun e w' => e = .returned (.bool true) ∧ Below w.heap.size w w' := by
 have HB := Aside0.mk (Below.refl w.heap.size w)
 have c0a := eq_true a0
 have c0b := eq_true b0
 have c1a := eq_true a1
 have c1b := eq_true b1
 have c2a := eq_true a2
 have c2b := eq_true b2
 have hu0 := Tryz.underlying26
 have hu1 := Tryz.underlying29
 have hu2 := Tryz.underlying48
 have hu3 := Tryz.underlying64
 have hu4 := Tryz.underlying61
 have hu5 := Tryz.underlying27
 have KE := Aside0.mk (fun (w' : World) hv => step_h (A0 := A0) (A1 := A1) (A2 := A2) r m0 m1 m2 w' e0 e1 e2 hv g0 g1 g2 hk he)
 have hz : (sErr r ⟨m0, m1, m2⟩ != 0) = true := by simpa using he
 generalize sErr r ⟨m0, m1, m2⟩ = er at KE hz
 clear he hk e0 e1 e2 g0 g1 g2 l0 l1 l2 y0 y1
 go_enter Tryz.func8, Tryz.ntmps8
 go_upto_region 1 with (first | (refine boxq_ 3 #[.int .u16 r.a, .int .u16 r.l, .int .u16 r.q, .int .i64 r.z, .int .i64 r.eb, .int .i64 r.fb, .int .i64 r.su, .bool r.ext, .int .u16 r.idx, .bool r.held, .int .u16 r.b, .bool r.inh, .bool r.srv] 26 ?_; intro g3 hg wb K hb; (try have NE3_3 := nkb_ K3 hg); (try have NE4_3 := nkb_ K4 hg); (try have NE7_3 := nkb_ K7 hg); (try have NE8_3 := nkb_ K8 hg); (try have NE12_3 := nkb_ K12 hg); (try have NE17_3 := nkb_ K17 hg); (try have NE18_3 := nkb_ K18 hg); have L3 := lkb_ HB hg; (try replace K3 := kbb_ K3 hb); (try replace K4 := kbb_ K4 hb); (try replace K7 := kbb_ K7 hb); (try replace K8 := kbb_ K8 hb); (try replace K12 := kbb_ K12 hb); (try replace K17 := kbb_ K17 hb); (try replace K18 := kbb_ K18 hb); replace HB := hbs_ HB hb; have K3 := Aside0.mk K; clear K hb hg) | (refine boxq_ 4 #[.slice A0 n0 k0, .slice A1 n1 k1, .slice A2 n2 k2] 29 ?_; intro g4 hg wb K hb; (try have NE3_4 := nkb_ K3 hg); (try have NE4_4 := nkb_ K4 hg); (try have NE7_4 := nkb_ K7 hg); (try have NE8_4 := nkb_ K8 hg); (try have NE12_4 := nkb_ K12 hg); (try have NE17_4 := nkb_ K17 hg); (try have NE18_4 := nkb_ K18 hg); have L4 := lkb_ HB hg; (try replace K3 := kbb_ K3 hb); (try replace K4 := kbb_ K4 hb); (try replace K7 := kbb_ K7 hb); (try replace K8 := kbb_ K8 hb); (try replace K12 := kbb_ K12 hb); (try replace K17 := kbb_ K17 hb); (try replace K18 := kbb_ K18 hb); replace HB := hbs_ HB hb; have K4 := Aside0.mk K; clear K hb hg))
 refine start_ (n := 23) (S := fun w' => w'.cell? ⟨g4, 0, none⟩ = some (.slice A0 n0 k0) ∧ w'.cell? ⟨g4, 1, none⟩ = some (.slice A1 n1 k1) ∧ w'.cell? ⟨g4, 2, none⟩ = some (.slice A2 n2 k2)) (ds := [22]) #[false, false, false, false, false, false, false, false, false, false, false, false, false, false, false, false, false, false, false, false, false, false, false] (by kernel_rfl) rfl rfl ⟨(blk_cell K4.out 0).trans rfl, (blk_cell K4.out 1).trans rfl, (blk_cell K4.out 2).trans rfl⟩ (fun hHeld => ?_)
 replace K3 := Aside0.mk (blk_drew K3.out)
 replace K4 := Aside0.mk (blk_drew K4.out)
 replace HB := Aside0.mk (below_drew1 HB.out)
 generalize wb.drew = wd at K3 K4 HB hHeld ⊢
 refine pvq_ 0 (some 20) rfl rfl ?_
 refine pvq_ 2 (some 22) rfl rfl ?_
 refine pvq_ 7 (some 27) rfl rfl ?_
 refine pvq_ 9 (some 29) rfl rfl ?_
 refine pvq_ 14 (some 34) rfl rfl ?_
 refine pvq_ 16 (some 36) rfl rfl ?_
 refine tkq_ 1 (some 21) rfl rfl hHeld ?_
 refine tkq_ 3 (some 23) rfl rfl hHeld ?_
 refine pvq_ 4 (some 24) rfl rfl ?_
 refine pvq_ 5 (some 25) rfl rfl ?_
 refine pvq_ 6 (some 26) rfl rfl ?_
 refine tkq_ 8 (some 28) rfl rfl hHeld ?_
 refine tkq_ 10 (some 30) rfl rfl hHeld ?_
 refine pvq_ 11 (some 31) rfl rfl ?_
 refine pvq_ 12 (some 32) rfl rfl ?_
 refine pvq_ 13 (some 33) rfl rfl ?_
 refine tkq_ 15 (some 35) rfl rfl hHeld ?_
 refine tkq_ 17 (some 37) rfl rfl hHeld ?_
 refine pvq_ 18 (some 38) rfl rfl ?_
 refine pvq_ 19 (some 39) rfl rfl ?_
 refine pvq_ 20 (some 40) rfl rfl ?_
 refine pvq_ 21 (some 41) rfl rfl ?_
 refine laq_ 22 none rfl rfl (fun K hK => ?_)
 refine skip_ (w1 := World.setRow wd g4 #[.slice A0 q0 k0, .slice A1 q1 k1, .slice A2 q2 k2]) (by rfl) rfl ?_ ?_
 · refine run_store_row 29 (.tmp 4) (.tmp 41) ?_ g4 ?_ 29 _ #[.slice A0 q0 k0, .slice A1 q1 k1, .slice A2 q2 k2] ?_ K4.out (by kernel_rfl) rfl (by kernel_rfl)
   · rfl
   · rfl
   · rfl
 replace HB := Aside0.mk (below_setRow HB.out L4.out #[.slice A0 q0 k0, .slice A1 q1 k1, .slice A2 q2 k2])
 replace K3 := Aside0.mk (blk_row_far K3.out (by first | exact NE3_4.out | exact NE4_3.out.symm) #[.slice A0 q0 k0, .slice A1 q1 k1, .slice A2 q2 k2])
 replace K4 := Aside0.mk (blk_row K4.out #[.slice A0 q0 k0, .slice A1 q1 k1, .slice A2 q2 k2])
 generalize World.setRow wd g4 #[.slice A0 q0 k0, .slice A1 q1 k1, .slice A2 q2 k2] = ws at K3 K4 HB ⊢
 refine hK.out _ _ ?_
 clear hK K
 refine done_ (by kernel_rfl) ?_
 clear c0a c0b c1a c1b c2a c2b hj0 hj1 hj2 hcut0 hcut1 hcut2 a0 a1 a2 b0 b1 b2
 go_upto_region 3 with (first | (refine load_row_ rfl 26 _ rfl g3 rfl #[.int .u16 r.a, .int .u16 r.l, .int .u16 r.q, .int .i64 r.z, .int .i64 r.eb, .int .i64 r.fb, .int .i64 r.su, .bool r.ext, .int .u16 r.idx, .bool r.held, .int .u16 r.b, .bool r.inh, .bool r.srv] _ K3.out _ Tryz.underlying26 rfl (by kernel_rfl) ?_) | (refine load_row_ rfl 29 _ rfl g4 rfl #[.slice A0 q0 k0, .slice A1 q1 k1, .slice A2 q2 k2] _ K4.out _ Tryz.underlying29 rfl (by kernel_rfl) ?_) | (go_at_call 21; (with_reducible refine at_args #[.agg #[.int .u16 r.a, .int .u16 r.l, .int .u16 r.q, .int .i64 r.z, .int .i64 r.eb, .int .i64 r.fb, .int .i64 r.su, .bool r.ext, .int .u16 r.idx, .bool r.held, .int .u16 r.b, .bool r.inh, .bool r.srv], .agg #[.slice A0 q0 k0, .slice A1 q1 k1, .slice A2 q2 k2]] ?_); (with_reducible refine (KE.out _ (HV.out.below HB.out)).mono ?_); rintro e wc ⟨rfl, hb⟩; (try replace K3 := kbb_ K3 hb); (try replace K4 := kbb_ K4 hb); (try replace K7 := kbb_ K7 hb); (try replace K8 := kbb_ K8 hb); (try replace K12 := kbb_ K12 hb); (try replace K17 := kbb_ K17 hb); (try replace K18 := kbb_ K18 hb); replace HB := hbs_ HB hb; clear hb) | (refine boxq_ 7 #[.int .u16 0, .int .u16 0, .int .u16 0, .int .i64 0, .int .i64 0, .int .i64 0, .int .i64 0, .bool false, .int .u16 0, .bool false, .int .u16 0, .bool false, .bool false] 26 ?_; intro g7 hg wb K hb; (try have NE3_7 := nkb_ K3 hg); (try have NE4_7 := nkb_ K4 hg); (try have NE7_7 := nkb_ K7 hg); (try have NE8_7 := nkb_ K8 hg); (try have NE12_7 := nkb_ K12 hg); (try have NE17_7 := nkb_ K17 hg); (try have NE18_7 := nkb_ K18 hg); have L7 := lkb_ HB hg; (try replace K3 := kbb_ K3 hb); (try replace K4 := kbb_ K4 hb); (try replace K7 := kbb_ K7 hb); (try replace K8 := kbb_ K8 hb); (try replace K12 := kbb_ K12 hb); (try replace K17 := kbb_ K17 hb); (try replace K18 := kbb_ K18 hb); replace HB := hbs_ HB hb; have K7 := Aside0.mk K; clear K hb hg) | (refine boxq_ 8 #[.slice none 0 0, .slice none 0 0, .slice none 0 0, .int .i64 0, .int .u8 0] 48 ?_; intro g8 hg wb K hb; (try have NE3_8 := nkb_ K3 hg); (try have NE4_8 := nkb_ K4 hg); (try have NE7_8 := nkb_ K7 hg); (try have NE8_8 := nkb_ K8 hg); (try have NE12_8 := nkb_ K12 hg); (try have NE17_8 := nkb_ K17 hg); (try have NE18_8 := nkb_ K18 hg); have L8 := lkb_ HB hg; (try replace K3 := kbb_ K3 hb); (try replace K4 := kbb_ K4 hb); (try replace K7 := kbb_ K7 hb); (try replace K8 := kbb_ K8 hb); (try replace K12 := kbb_ K12 hb); (try replace K17 := kbb_ K17 hb); (try replace K18 := kbb_ K18 hb); replace HB := hbs_ HB hb; have K8 := Aside0.mk K; clear K hb hg) | (refine strq_ 26 7 46 g7 #[.int .u16 0, .int .u16 0, .int .u16 0, .int .i64 0, .int .i64 0, .int .i64 0, .int .i64 0, .bool false, .int .u16 0, .bool false, .int .u16 0, .bool false, .bool false] K7 ?_; intro ws hk hfar hbel hkp; replace HB := Aside0.mk (hbel _ _ HB.out L7.out); (try replace K3 := hfr_ hfar K3 (by first | exact NE3_7.out | exact NE7_3.out.symm)); (try replace K4 := hfr_ hfar K4 (by first | exact NE4_7.out | exact NE7_4.out.symm)); (try replace K8 := hfr_ hfar K8 (by first | exact NE8_7.out | exact NE7_8.out.symm)); (try replace K12 := hfr_ hfar K12 (by first | exact NE12_7.out | exact NE7_12.out.symm)); (try replace K17 := hfr_ hfar K17 (by first | exact NE17_7.out | exact NE7_17.out.symm)); (try replace K18 := hfr_ hfar K18 (by first | exact NE18_7.out | exact NE7_18.out.symm)); replace K7 := Aside0.mk hk; clear hk hfar hbel hkp) | (refine strq_ 48 8 47 g8 #[.slice none 0 0, .slice none 0 0, .slice none 0 0, .int .i64 0, .int .u8 0] K8 ?_; intro ws hk hfar hbel hkp; replace HB := Aside0.mk (hbel _ _ HB.out L8.out); (try replace K3 := hfr_ hfar K3 (by first | exact NE3_8.out | exact NE8_3.out.symm)); (try replace K4 := hfr_ hfar K4 (by first | exact NE4_8.out | exact NE8_4.out.symm)); (try replace K7 := hfr_ hfar K7 (by first | exact NE7_8.out | exact NE8_7.out.symm)); (try replace K12 := hfr_ hfar K12 (by first | exact NE12_8.out | exact NE8_12.out.symm)); (try replace K17 := hfr_ hfar K17 (by first | exact NE17_8.out | exact NE8_17.out.symm)); (try replace K18 := hfr_ hfar K18 (by first | exact NE18_8.out | exact NE8_18.out.symm)); replace K8 := Aside0.mk hk; clear hk hfar hbel hkp))
 go_wp2_with (first | (go_at_call 20; (with_reducible refine at_args #[] ?_); (with_reducible refine (works_c _).mono ?_); rintro e wc ⟨rfl, hb⟩; (try replace K3 := kbb_ K3 hb); (try replace K4 := kbb_ K4 hb); (try replace K7 := kbb_ K7 hb); (try replace K8 := kbb_ K8 hb); (try replace K12 := kbb_ K12 hb); (try replace K17 := kbb_ K17 hb); (try replace K18 := kbb_ K18 hb); replace HB := hbs_ HB hb; clear hb))
 go_ret
 exact ⟨rfl, HB.out⟩
theorem local_ok (r : Rg) (hk : r.Kinds) (m0 m1 m2 : List Int) (y : Int) (y0 : 0 ≤ y) (y1 : y < 65536) (A0 A1 A2 : Option Addr) (n0 n1 n2 q0 q1 q2 k0 k1 k2 : Nat) (j0 j1 j2 : Int) (w : World) (HV : Aside0 (VwAt w A0 A1 A2 ⟨m0, m1, m2⟩)) (e0 : m0.length = q0) (e1 : m1.length = q1) (e2 : m2.length = q2) (g0 : q0 ≤ k0) (g1 : q1 ≤ k1) (g2 : q2 ≤ k2) (l0 : q0 ≤ 2048) (l1 : q1 ≤ 36864) (l2 : q2 ≤ 512) (hj0 : (if 2048 < (n0 : Int) then 2048 else (n0 : Int)) = j0) (a0 : 0 ≤ j0) (b0 : j0 ≤ n0) (hcut0 : ∀ W : World, (Instr.slice 27 (.slice A0 n0 k0) none (some (.int .i64 j0)) none).run Tryz.prog W = .ok (.slice A0 q0 k0) W) (hj1 : (if 36864 < (n1 : Int) then 36864 else (n1 : Int)) = j1) (a1 : 0 ≤ j1) (b1 : j1 ≤ n1) (hcut1 : ∀ W : World, (Instr.slice 27 (.slice A1 n1 k1) none (some (.int .i64 j1)) none).run Tryz.prog W = .ok (.slice A1 q1 k1) W) (hj2 : (if 512 < (n2 : Int) then 512 else (n2 : Int)) = j2) (a2 : 0 ≤ j2) (b2 : j2 ≤ n2) (hcut2 : ∀ W : World, (Instr.slice 27 (.slice A2 n2 k2) none (some (.int .i64 j2)) none).run Tryz.prog W = .ok (.slice A2 q2 k2) W) (he : sErr r ⟨m0, m1, m2⟩ = 0) : Calls Tryz.prog 8 #[.agg #[.int .u16 r.a, .int .u16 r.l, .int .u16 r.q, .int .i64 r.z, .int .i64 r.eb, .int .i64 r.fb, .int .i64 r.su, .bool r.ext, .int .u16 r.idx, .bool r.held, .int .u16 r.b, .bool r.inh, .bool r.srv], .agg #[.slice A0 n0 k0, .slice A1 n1 k1, .slice A2 n2 k2], .int .u16 y] w fun e w' => e = .returned (.bool true) ∧ Below w.heap.size w w' := by
 have VD := Aside0.mk (step_v hk he)
 have NN := Aside0.mk (step_n he)
 have LO := Aside0.mk (fun (lE lF : List Int) (h : ∀ x ∈ (stepN r ⟨m0, m1, m2⟩).reads, AgAt ⟨m0, m1, m2⟩ ⟨lE, lF, m2⟩ x) => step_u (r := r) (v := ⟨m0, m1, m2⟩) (u := ⟨lE, lF, m2⟩) rfl h)
 rw [he] at LO
 have KE := Aside0.mk (fun (s : St) (hs : stepN r ⟨m0, m1, m2⟩ = s) (w' : World) hv => step_g (A0 := A0) (A1 := A1) (A2 := A2) r m0 m1 m2 s w' e0 e1 e2 hv g0 g1 g2 hk he hs)
 obtain ⟨s, hs⟩ : ∃ s, stepN r ⟨m0, m1, m2⟩ = s := ⟨_, rfl⟩
 replace KE := Aside0.mk (KE.out s hs)
 rw [hs] at VD NN LO
 clear hs he
 have KM := Aside0.mk (fun w' : World => may_c s.r w')
 rw [VD.out.ok.may] at KM
 have bc1 : decide (s.cyc < 1) = false := decide_eq_false (by have := VD.out.c0; omega)
 have bc2 : decide (6 < s.cyc) = false := decide_eq_false (by have := VD.out.c1; omega)
 have HK := Aside0.mk hk
 have E0 := Aside0.mk e0
 have E1 := Aside0.mk e1
 have E2 := Aside0.mk e2
 have G2 := Aside0.mk g2
 have Q0 := Aside0.mk l0
 have Q1 := Aside0.mk l1
 have Y0 := Aside0.mk y0
 clear hk e0 e1 e2 g0 g1 g2 l0 l1 l2 y0 y1
 have HB := Aside0.mk (Below.refl w.heap.size w)
 have c0a := eq_true a0
 have c0b := eq_true b0
 have c1a := eq_true a1
 have c1b := eq_true b1
 have c2a := eq_true a2
 have c2b := eq_true b2
 have hu0 := Tryz.underlying26
 have hu1 := Tryz.underlying29
 have hu2 := Tryz.underlying48
 have hu3 := Tryz.underlying64
 have hu4 := Tryz.underlying61
 have hu5 := Tryz.underlying27
 go_enter Tryz.func8, Tryz.ntmps8
 go_upto_region 1 with (first | (refine boxq_ 3 #[.int .u16 r.a, .int .u16 r.l, .int .u16 r.q, .int .i64 r.z, .int .i64 r.eb, .int .i64 r.fb, .int .i64 r.su, .bool r.ext, .int .u16 r.idx, .bool r.held, .int .u16 r.b, .bool r.inh, .bool r.srv] 26 ?_; intro g3 hg wb K hb; (try have NE3_3 := nkb_ K3 hg); (try have NE4_3 := nkb_ K4 hg); (try have NE7_3 := nkb_ K7 hg); (try have NE8_3 := nkb_ K8 hg); (try have NE12_3 := nkb_ K12 hg); (try have NE17_3 := nkb_ K17 hg); (try have NE18_3 := nkb_ K18 hg); have L3 := lkb_ HB hg; (try replace K3 := kbb_ K3 hb); (try replace K4 := kbb_ K4 hb); (try replace K7 := kbb_ K7 hb); (try replace K8 := kbb_ K8 hb); (try replace K12 := kbb_ K12 hb); (try replace K17 := kbb_ K17 hb); (try replace K18 := kbb_ K18 hb); replace HB := hbs_ HB hb; have K3 := Aside0.mk K; clear K hb hg) | (refine boxq_ 4 #[.slice A0 n0 k0, .slice A1 n1 k1, .slice A2 n2 k2] 29 ?_; intro g4 hg wb K hb; (try have NE3_4 := nkb_ K3 hg); (try have NE4_4 := nkb_ K4 hg); (try have NE7_4 := nkb_ K7 hg); (try have NE8_4 := nkb_ K8 hg); (try have NE12_4 := nkb_ K12 hg); (try have NE17_4 := nkb_ K17 hg); (try have NE18_4 := nkb_ K18 hg); have L4 := lkb_ HB hg; (try replace K3 := kbb_ K3 hb); (try replace K4 := kbb_ K4 hb); (try replace K7 := kbb_ K7 hb); (try replace K8 := kbb_ K8 hb); (try replace K12 := kbb_ K12 hb); (try replace K17 := kbb_ K17 hb); (try replace K18 := kbb_ K18 hb); replace HB := hbs_ HB hb; have K4 := Aside0.mk K; clear K hb hg))
 refine start_ (n := 23) (S := fun w' => w'.cell? ⟨g4, 0, none⟩ = some (.slice A0 n0 k0) ∧ w'.cell? ⟨g4, 1, none⟩ = some (.slice A1 n1 k1) ∧ w'.cell? ⟨g4, 2, none⟩ = some (.slice A2 n2 k2)) (ds := [22]) #[false, false, false, false, false, false, false, false, false, false, false, false, false, false, false, false, false, false, false, false, false, false, false] (by kernel_rfl) rfl rfl ⟨(blk_cell K4.out 0).trans rfl, (blk_cell K4.out 1).trans rfl, (blk_cell K4.out 2).trans rfl⟩ (fun hHeld => ?_)
 replace K3 := Aside0.mk (blk_drew K3.out)
 replace K4 := Aside0.mk (blk_drew K4.out)
 replace HB := Aside0.mk (below_drew1 HB.out)
 generalize wb.drew = wd at K3 K4 HB hHeld ⊢
 refine pvq_ 0 (some 20) rfl rfl ?_
 refine pvq_ 2 (some 22) rfl rfl ?_
 refine pvq_ 7 (some 27) rfl rfl ?_
 refine pvq_ 9 (some 29) rfl rfl ?_
 refine pvq_ 14 (some 34) rfl rfl ?_
 refine pvq_ 16 (some 36) rfl rfl ?_
 refine tkq_ 1 (some 21) rfl rfl hHeld ?_
 refine tkq_ 3 (some 23) rfl rfl hHeld ?_
 refine pvq_ 4 (some 24) rfl rfl ?_
 refine pvq_ 5 (some 25) rfl rfl ?_
 refine pvq_ 6 (some 26) rfl rfl ?_
 refine tkq_ 8 (some 28) rfl rfl hHeld ?_
 refine tkq_ 10 (some 30) rfl rfl hHeld ?_
 refine pvq_ 11 (some 31) rfl rfl ?_
 refine pvq_ 12 (some 32) rfl rfl ?_
 refine pvq_ 13 (some 33) rfl rfl ?_
 refine tkq_ 15 (some 35) rfl rfl hHeld ?_
 refine tkq_ 17 (some 37) rfl rfl hHeld ?_
 refine pvq_ 18 (some 38) rfl rfl ?_
 refine pvq_ 19 (some 39) rfl rfl ?_
 refine pvq_ 20 (some 40) rfl rfl ?_
 refine pvq_ 21 (some 41) rfl rfl ?_
 refine laq_ 22 none rfl rfl (fun K hK => ?_)
 refine skip_ (w1 := World.setRow wd g4 #[.slice A0 q0 k0, .slice A1 q1 k1, .slice A2 q2 k2]) (by rfl) rfl ?_ ?_
 · refine run_store_row 29 (.tmp 4) (.tmp 41) ?_ g4 ?_ 29 _ #[.slice A0 q0 k0, .slice A1 q1 k1, .slice A2 q2 k2] ?_ K4.out (by kernel_rfl) rfl (by kernel_rfl)
   · rfl
   · rfl
   · rfl
 replace HB := Aside0.mk (below_setRow HB.out L4.out #[.slice A0 q0 k0, .slice A1 q1 k1, .slice A2 q2 k2])
 replace K3 := Aside0.mk (blk_row_far K3.out (by first | exact NE3_4.out | exact NE4_3.out.symm) #[.slice A0 q0 k0, .slice A1 q1 k1, .slice A2 q2 k2])
 replace K4 := Aside0.mk (blk_row K4.out #[.slice A0 q0 k0, .slice A1 q1 k1, .slice A2 q2 k2])
 generalize World.setRow wd g4 #[.slice A0 q0 k0, .slice A1 q1 k1, .slice A2 q2 k2] = ws at K3 K4 HB ⊢
 refine hK.out _ _ ?_
 clear hK K
 refine done_ (by kernel_rfl) ?_
 clear c0a c0b c1a c1b c2a c2b hj0 hj1 hj2 hcut0 hcut1 hcut2 a0 a1 a2 b0 b1 b2
 go_upto_region 3 with (first | (refine load_row_ rfl 26 _ rfl g3 rfl #[.int .u16 r.a, .int .u16 r.l, .int .u16 r.q, .int .i64 r.z, .int .i64 r.eb, .int .i64 r.fb, .int .i64 r.su, .bool r.ext, .int .u16 r.idx, .bool r.held, .int .u16 r.b, .bool r.inh, .bool r.srv] _ K3.out _ Tryz.underlying26 rfl (by kernel_rfl) ?_) | (refine load_row_ rfl 29 _ rfl g4 rfl #[.slice A0 q0 k0, .slice A1 q1 k1, .slice A2 q2 k2] _ K4.out _ Tryz.underlying29 rfl (by kernel_rfl) ?_) | (go_at_call 21; (with_reducible refine at_args #[.agg #[.int .u16 r.a, .int .u16 r.l, .int .u16 r.q, .int .i64 r.z, .int .i64 r.eb, .int .i64 r.fb, .int .i64 r.su, .bool r.ext, .int .u16 r.idx, .bool r.held, .int .u16 r.b, .bool r.inh, .bool r.srv], .agg #[.slice A0 q0 k0, .slice A1 q1 k1, .slice A2 q2 k2]] ?_); (with_reducible refine (KE.out _ (HV.out.below HB.out)).mono ?_); rintro e wc ⟨vC, vO, vR, rfl, hC, hO, hR, hb⟩; obtain ⟨AC1, eC1, rfl⟩ := Kd.R_slice hC; obtain ⟨AO1, eO1, rfl⟩ := Kd.R_slice hO; obtain ⟨AR1, eR1, rfl⟩ := Kd.R_slice hR; have HBo := HB; (try replace HC := Aside0.mk (Kd.R_below HC.out hb)); (try replace HO := Aside0.mk (Kd.R_below HO.out hb)); (try replace HR := Aside0.mk (Kd.R_below HR.out hb)); (try replace HE := Aside0.mk (Kd.R_below HE.out hb)); (try replace HF := Aside0.mk (Kd.R_below HF.out hb)); (try replace K3 := kbb_ K3 hb); (try replace K4 := kbb_ K4 hb); (try replace K7 := kbb_ K7 hb); (try replace K8 := kbb_ K8 hb); (try replace K12 := kbb_ K12 hb); (try replace K17 := kbb_ K17 hb); (try replace K18 := kbb_ K18 hb); replace HB := hbs_ HB hb; have HC := Aside0.mk (Kd.R_mono (Kd.R_lower hC HBo.out.size) (fun _ _ => trivial)); have HO := Aside0.mk (Kd.R_mono (Kd.R_lower hO HBo.out.size) (fun _ _ => trivial)); have HR := Aside0.mk (Kd.R_lower hR HBo.out.size); clear hC hO hR hb HBo) | (refine boxq_ 7 #[.int .u16 0, .int .u16 0, .int .u16 0, .int .i64 0, .int .i64 0, .int .i64 0, .int .i64 0, .bool false, .int .u16 0, .bool false, .int .u16 0, .bool false, .bool false] 26 ?_; intro g7 hg wb K hb; (try have NE3_7 := nkb_ K3 hg); (try have NE4_7 := nkb_ K4 hg); (try have NE7_7 := nkb_ K7 hg); (try have NE8_7 := nkb_ K8 hg); (try have NE12_7 := nkb_ K12 hg); (try have NE17_7 := nkb_ K17 hg); (try have NE18_7 := nkb_ K18 hg); have L7 := lkb_ HB hg; (try replace HC := Aside0.mk (Kd.R_below HC.out hb)); (try replace HO := Aside0.mk (Kd.R_below HO.out hb)); (try replace HR := Aside0.mk (Kd.R_below HR.out hb)); (try replace K3 := kbb_ K3 hb); (try replace K4 := kbb_ K4 hb); (try replace K7 := kbb_ K7 hb); (try replace K8 := kbb_ K8 hb); (try replace K12 := kbb_ K12 hb); (try replace K17 := kbb_ K17 hb); (try replace K18 := kbb_ K18 hb); replace HB := hbs_ HB hb; have K7 := Aside0.mk K; clear K hb hg) | (refine boxq_ 8 #[.slice none 0 0, .slice none 0 0, .slice none 0 0, .int .i64 0, .int .u8 0] 48 ?_; intro g8 hg wb K hb; (try have NE3_8 := nkb_ K3 hg); (try have NE4_8 := nkb_ K4 hg); (try have NE7_8 := nkb_ K7 hg); (try have NE8_8 := nkb_ K8 hg); (try have NE12_8 := nkb_ K12 hg); (try have NE17_8 := nkb_ K17 hg); (try have NE18_8 := nkb_ K18 hg); have L8 := lkb_ HB hg; (try replace HC := Aside0.mk (Kd.R_below HC.out hb)); (try replace HO := Aside0.mk (Kd.R_below HO.out hb)); (try replace HR := Aside0.mk (Kd.R_below HR.out hb)); (try replace K3 := kbb_ K3 hb); (try replace K4 := kbb_ K4 hb); (try replace K7 := kbb_ K7 hb); (try replace K8 := kbb_ K8 hb); (try replace K12 := kbb_ K12 hb); (try replace K17 := kbb_ K17 hb); (try replace K18 := kbb_ K18 hb); replace HB := hbs_ HB hb; have K8 := Aside0.mk K; clear K hb hg) | (refine strq_ 26 7 46 g7 #[.int .u16 s.r.a, .int .u16 s.r.l, .int .u16 s.r.q, .int .i64 s.r.z, .int .i64 s.r.eb, .int .i64 s.r.fb, .int .i64 s.r.su, .bool s.r.ext, .int .u16 s.r.idx, .bool s.r.held, .int .u16 s.r.b, .bool s.r.inh, .bool s.r.srv] K7 ?_; intro ws hk hfar hbel hkp; (try replace HC := Aside0.mk (R_kb HC.out K7.out (fun q hq => by rw [ekC q hq]; decide) hkp)); (try replace HO := Aside0.mk (R_kb HO.out K7.out (fun q hq => by rw [ekC q hq]; decide) hkp)); (try replace HR := Aside0.mk (R_kb HR.out K7.out (fun q hq => by rw [ekS q hq]; decide) hkp)); replace HB := Aside0.mk (hbel _ _ HB.out L7.out); (try replace K3 := hfr_ hfar K3 (by first | exact NE3_7.out | exact NE7_3.out.symm)); (try replace K4 := hfr_ hfar K4 (by first | exact NE4_7.out | exact NE7_4.out.symm)); (try replace K8 := hfr_ hfar K8 (by first | exact NE8_7.out | exact NE7_8.out.symm)); (try replace K12 := hfr_ hfar K12 (by first | exact NE12_7.out | exact NE7_12.out.symm)); (try replace K17 := hfr_ hfar K17 (by first | exact NE17_7.out | exact NE7_17.out.symm)); (try replace K18 := hfr_ hfar K18 (by first | exact NE18_7.out | exact NE7_18.out.symm)); replace K7 := Aside0.mk hk; clear hk hfar hbel hkp) | (refine strq_ 48 8 47 g8 #[.slice AC1 s.cells.length eC1, .slice AO1 s.outs.length eO1, .slice AR1 s.reads.length eR1, .int .i64 s.cyc, .int .u8 s.op] K8 ?_; intro ws hk hfar hbel hkp; (try replace HC := Aside0.mk (R_kb HC.out K8.out (fun q hq => by rw [ekC q hq]; decide) hkp)); (try replace HO := Aside0.mk (R_kb HO.out K8.out (fun q hq => by rw [ekC q hq]; decide) hkp)); (try replace HR := Aside0.mk (R_kb HR.out K8.out (fun q hq => by rw [ekS q hq]; decide) hkp)); replace HB := Aside0.mk (hbel _ _ HB.out L8.out); (try replace K3 := hfr_ hfar K3 (by first | exact NE3_8.out | exact NE8_3.out.symm)); (try replace K4 := hfr_ hfar K4 (by first | exact NE4_8.out | exact NE8_4.out.symm)); (try replace K7 := hfr_ hfar K7 (by first | exact NE7_8.out | exact NE8_7.out.symm)); (try replace K12 := hfr_ hfar K12 (by first | exact NE12_8.out | exact NE8_12.out.symm)); (try replace K17 := hfr_ hfar K17 (by first | exact NE17_8.out | exact NE8_17.out.symm)); (try replace K18 := hfr_ hfar K18 (by first | exact NE18_8.out | exact NE8_18.out.symm)); replace K8 := Aside0.mk hk; clear hk hfar hbel hkp))
 go_upto_region 7 with (first | (refine load_row_ rfl 26 _ rfl g7 rfl #[.int .u16 s.r.a, .int .u16 s.r.l, .int .u16 s.r.q, .int .i64 s.r.z, .int .i64 s.r.eb, .int .i64 s.r.fb, .int .i64 s.r.su, .bool s.r.ext, .int .u16 s.r.idx, .bool s.r.held, .int .u16 s.r.b, .bool s.r.inh, .bool s.r.srv] _ K7.out _ Tryz.underlying26 rfl (by kernel_rfl) ?_) | (go_at_call 13; (with_reducible refine at_args #[.agg #[.int .u16 s.r.a, .int .u16 s.r.l, .int .u16 s.r.q, .int .i64 s.r.z, .int .i64 s.r.eb, .int .i64 s.r.fb, .int .i64 s.r.su, .bool s.r.ext, .int .u16 s.r.idx, .bool s.r.held, .int .u16 s.r.b, .bool s.r.inh, .bool s.r.srv]] ?_); (with_reducible refine (KM.out _).mono ?_); rintro e wc ⟨rfl, hb⟩; (try replace HC := Aside0.mk (Kd.R_below HC.out hb)); (try replace HO := Aside0.mk (Kd.R_below HO.out hb)); (try replace HR := Aside0.mk (Kd.R_below HR.out hb)); (try replace K3 := kbb_ K3 hb); (try replace K4 := kbb_ K4 hb); (try replace K7 := kbb_ K7 hb); (try replace K8 := kbb_ K8 hb); (try replace K12 := kbb_ K12 hb); (try replace K17 := kbb_ K17 hb); (try replace K18 := kbb_ K18 hb); replace HB := hbs_ HB hb; have x8_0 : wc.cell? ⟨g8, 0, none⟩ = some (.slice AC1 s.cells.length eC1) := (blk_cell K8.out 0).trans rfl; have x8_1 : wc.cell? ⟨g8, 1, none⟩ = some (.slice AO1 s.outs.length eO1) := (blk_cell K8.out 1).trans rfl; have x8_2 : wc.cell? ⟨g8, 2, none⟩ = some (.slice AR1 s.reads.length eR1) := (blk_cell K8.out 2).trans rfl; have x8_3 : wc.cell? ⟨g8, 3, none⟩ = some (.int .i64 s.cyc) := (blk_cell K8.out 3).trans rfl; clear hb))
 clear KM bc1 bc2
 have m8 := Aside0.mk (Kd.C_max (Kd.R_reads' HC.out).2.2)
 have m9 := Aside0.mk (Kd.C_max (Kd.R_reads' HO.out).2.2)
 have m10 := Aside0.mk (Kd.C_max (Kd.R_reads' HR.out).2.2)
 go_wp2
 go_loopg [10] s.cells.length (fun g v10 w' => ∃ i : Int, v10 = .int .i64 i ∧ Aside0 (0 ≤ i ∧ i + g = (s.cells.length : Nat)) ∧ wc = w')
 case atStart => exact ⟨0, rfl, ⟨by decide, by omega⟩, rfl⟩
 case round =>
  as_aux_lemma =>
  obtain ⟨i, rfl, hg, rfl⟩ := hrel
  by_cases hlt : i < (s.cells.length : Int)
  · obtain ⟨g, rfl⟩ : ∃ g, gk = g + 1 := ⟨gk - 1, by have := hg.out; omega⟩
    have b3 : decide (i < (s.cells.length : Int)) = true := decide_eq_true hlt
    have i0 := hg.out.1
    have wq := wl i0 hlt (by have := m8.out; omega)
    obtain ⟨ad, eA, hx0, hx1⟩ := at_T61 (Kd.R_reads' HC.out).2.2 i i0 hlt
    subst eA
    have cl := VD.out.cl _ (rdT_mem i0 hlt)
    have t1 : decide ((rd_T61 s.cells i).f0 < 8) = false := decide_eq_false (by omega)
    have t2 : decide (2047 < (rd_T61 s.cells i).f0) = false := decide_eq_false (by omega)
    have t3 : decide (32767 < (rd_T61 s.cells i).f1) = false := decide_eq_false (by omega)
    clear cl
    have i0b := eq_true i0
    have i1b := eq_true hlt
    go_wp2
    go_roundg g
    case measure => omega
    case rel => exact ⟨i + 1, by simp [wq], ⟨by have := hg.out; omega, by have := hg.out; omega⟩, rfl⟩
  · have b3 : decide (i < (s.cells.length : Int)) = false := decide_eq_false hlt
    clear hg hlt
    go_wp2
    go_loopg [11] s.outs.length (fun g v11 w' => ∃ i : Int, v11 = .int .i64 i ∧ Aside0 (0 ≤ i ∧ i + g = (s.outs.length : Nat)) ∧ wc = w')
    case atStart => exact ⟨0, rfl, ⟨by decide, by omega⟩, rfl⟩
    case round =>
     as_aux_lemma =>
     obtain ⟨i, rfl, hg, rfl⟩ := hrel
     by_cases hlt : i < (s.outs.length : Int)
     · obtain ⟨g, rfl⟩ : ∃ g, gk = g + 1 := ⟨gk - 1, by have := hg.out; omega⟩
       have b3 : decide (i < (s.outs.length : Int)) = true := decide_eq_true hlt
       have i0 := hg.out.1
       have wq := wl i0 hlt (by have := m9.out; omega)
       obtain ⟨ad, eA, hx0, hx1⟩ := at_T61 (Kd.R_reads' HO.out).2.2 i i0 hlt
       subst eA
       have cl := VD.out.ou _ (rdT_mem i0 hlt)
       have t1 : ((rd_T61 s.outs i).f0 == 1) = false := by simpa using cl.1
       have t2 : ((rd_T61 s.outs i).f0 == 2) = false := by simpa using cl.2.1
       have t3 : ((rd_T61 s.outs i).f0 == 7) = false := by simpa using cl.2.2.1
       have t4 : decide ((rd_T61 s.outs i).f0 < 0) = false := decide_eq_false (by omega)
       have t5 : decide (511 < (rd_T61 s.outs i).f0) = false := decide_eq_false (by omega)
       have t6 : decide (32767 < (rd_T61 s.outs i).f1) = false := decide_eq_false (by omega)
       clear cl
       have i0b := eq_true i0
       have i1b := eq_true hlt
       go_wp2
       go_roundg g
       case measure => omega
       case rel => exact ⟨i + 1, by simp [wq], ⟨by have := hg.out; omega, by have := hg.out; omega⟩, rfl⟩
     · have b3 : decide (i < (s.outs.length : Int)) = false := decide_eq_false hlt
       clear hg hlt
       have x4_2 : wc.cell? ⟨g4, 2, none⟩ = some (.slice A2 q2 k2) := (blk_cell K4.out 2).trans rfl
       go_upto_region 17 with fail
       clear x8_0 x8_1 x8_2 x8_3
       go_upto_region 18 with (first | ((with_reducible refine gate_dst (N := 158) rfl ?_); refine Kd.event_run (v := .agg #[.slice none 0 0, .slice none 0 0, .slice A2 q2 k2]) (w1 := _) rfl ?hr2 ?_; (case hr2 => kernel_rfl)) | (refine boxq_ 12 #[.slice none 0 0, .slice none 0 0, .slice none 0 0] 29 ?_; intro g12 hg wb K hb; (try have NE3_12 := nkb_ K3 hg); (try have NE4_12 := nkb_ K4 hg); (try have NE7_12 := nkb_ K7 hg); (try have NE8_12 := nkb_ K8 hg); (try have NE12_12 := nkb_ K12 hg); (try have NE17_12 := nkb_ K17 hg); (try have NE18_12 := nkb_ K18 hg); have L12 := lkb_ HB hg; (try replace HC := Aside0.mk (Kd.R_below HC.out hb)); (try replace HO := Aside0.mk (Kd.R_below HO.out hb)); (try replace HR := Aside0.mk (Kd.R_below HR.out hb)); (try replace K3 := kbb_ K3 hb); (try replace K4 := kbb_ K4 hb); (try replace K7 := kbb_ K7 hb); (try replace K8 := kbb_ K8 hb); (try replace K12 := kbb_ K12 hb); (try replace K17 := kbb_ K17 hb); (try replace K18 := kbb_ K18 hb); replace HB := hbs_ HB hb; have K12 := Aside0.mk K; clear K hb hg) | (refine strq_ 29 12 158 g12 #[.slice none 0 0, .slice none 0 0, .slice A2 q2 k2] K12 ?_; intro ws hk hfar hbel hkp; (try replace HC := Aside0.mk (R_kb HC.out K12.out (fun q hq => by rw [ekC q hq]; decide) hkp)); (try replace HO := Aside0.mk (R_kb HO.out K12.out (fun q hq => by rw [ekC q hq]; decide) hkp)); (try replace HR := Aside0.mk (R_kb HR.out K12.out (fun q hq => by rw [ekS q hq]; decide) hkp)); replace HB := Aside0.mk (hbel _ _ HB.out L12.out); (try replace K3 := hfr_ hfar K3 (by first | exact NE3_12.out | exact NE12_3.out.symm)); (try replace K4 := hfr_ hfar K4 (by first | exact NE4_12.out | exact NE12_4.out.symm)); (try replace K7 := hfr_ hfar K7 (by first | exact NE7_12.out | exact NE12_7.out.symm)); (try replace K8 := hfr_ hfar K8 (by first | exact NE8_12.out | exact NE12_8.out.symm)); (try replace K17 := hfr_ hfar K17 (by first | exact NE17_12.out | exact NE12_17.out.symm)); (try replace K18 := hfr_ hfar K18 (by first | exact NE18_12.out | exact NE12_18.out.symm)); replace K12 := Aside0.mk hk; clear hk hfar hbel hkp))
       clear x4_2
       go_wp2
       go_loopg [13] q0 (fun g v13 w' => ∃ (i : Int) (AE : Option Addr) (nE cE : Nat) (lE : List Int), v13 = .int .i64 i ∧ Aside0 (0 ≤ i ∧ i + g = (q0 : Nat)) ∧ Aside0 ((lE.length : Int) = i ∧ rngL lE) ∧ Aside0 ((World.heap w')[g12]? = some (.cells #[.slice AE nE cE, .slice none 0 0, .slice A2 q2 k2] 29 (0, 0))) ∧ Aside0 (Kd.R (Kd.int .u16) 24 w' w.heap.size (fun _ => True) (.slice AE nE cE) lE) ∧ Aside0 ((World.heap w')[g3]? = some (.cells #[.int .u16 r.a, .int .u16 r.l, .int .u16 r.q, .int .i64 r.z, .int .i64 r.eb, .int .i64 r.fb, .int .i64 r.su, .bool r.ext, .int .u16 r.idx, .bool r.held, .int .u16 r.b, .bool r.inh, .bool r.srv] 26 (0, 0))) ∧ Aside0 ((World.heap w')[g4]? = some (.cells #[.slice A0 q0 k0, .slice A1 q1 k1, .slice A2 q2 k2] 29 (0, 0))) ∧ Aside0 ((World.heap w')[g7]? = some (.cells #[.int .u16 s.r.a, .int .u16 s.r.l, .int .u16 s.r.q, .int .i64 s.r.z, .int .i64 s.r.eb, .int .i64 s.r.fb, .int .i64 s.r.su, .bool s.r.ext, .int .u16 s.r.idx, .bool s.r.held, .int .u16 s.r.b, .bool s.r.inh, .bool s.r.srv] 26 (0, 0))) ∧ Aside0 ((World.heap w')[g8]? = some (.cells #[.slice AC1 s.cells.length eC1, .slice AO1 s.outs.length eO1, .slice AR1 s.reads.length eR1, .int .i64 s.cyc, .int .u8 s.op] 48 (0, 0))) ∧ Aside0 (Kd.R k61 61 w' w.heap.size (fun _ => True) (.slice AC1 s.cells.length eC1) s.cells) ∧ Aside0 (Kd.R k61 61 w' w.heap.size (fun _ => True) (.slice AO1 s.outs.length eO1) s.outs) ∧ Aside0 (Kd.R k64 64 w' w.heap.size (fun _ => True) (.slice AR1 s.reads.length eR1) s.reads) ∧ Aside0 (Below w.heap.size w w'))
       case atStart => exact ⟨0, none, 0, 0, [], rfl, ⟨by decide, by omega⟩, ⟨rfl, fun k => ⟨by simp [rd], by simp [rd]⟩⟩, K12, ⟨Kd.R_nil _ _ _ _ _⟩, K3, K4, K7, K8, HC, HO, HR, HB⟩
       case round =>
        as_aux_lemma =>
        clear K3 K4 K7 K8 K12 HC HO HR HB
        obtain ⟨i, AE, nE, cE, lE, rfl, hg, hl, K12, HE, K3, K4, K7, K8, HC, HO, HR, HB⟩ := hrel
        have x4_0 : wr.cell? ⟨g4, 0, none⟩ = some (.slice A0 q0 k0) := (blk_cell K4.out 0).trans rfl
        by_cases hlt : i < (q0 : Int)
        · obtain ⟨g, rfl⟩ : ∃ g, gk = g + 1 := ⟨gk - 1, by have := hg.out; omega⟩
          have b3 : decide (i < (q0 : Int)) = true := decide_eq_true hlt
          have i0 := hg.out.1
          have wq := wl i0 hlt (by have := Q0.out; have := Q1.out; omega)
          obtain ⟨ad, eA, hx⟩ : ∃ ad, A0 = some ad ∧ ∀ W, Below w.heap.size w W → W.cell? (ad.add i.toNat) = some (.int .u16 (rd m0 i)) := by
           obtain ⟨ad, eA, _⟩ := Kd.at_int HV.out.ce i i0 (by show i < (m0.length : Int); rw [E0.out]; exact hlt)
           refine ⟨ad, eA, fun W hb => ?_⟩
           obtain ⟨ad', eA', h⟩ := Kd.at_int (HV.out.below hb).ce i i0 (by show i < (m0.length : Int); rw [E0.out]; exact hlt)
           rw [eA] at eA'; cases eA'; exact h
          subst eA
          obtain rfl : nE = lE.length := (Kd.R_reads' HE.out).1
          have i0b := eq_true i0
          have i1b := eq_true hlt
          go_upto_region 21 with fail
          clear x4_0
          refine start_ (n := 13) (S := fun w' => w'.cell? ⟨g12, 0, none⟩ = some (.slice AE lE.length cE) ∧ w'.cell? ⟨g4, 0, none⟩ = some (.slice (some ad) q0 k0) ∧ w'.cell? (Addr.add ad i.toNat) = some (.int .u16 (rd m0 i))) (ds := [12]) #[false, false, false, false, false, false, false, false, false, false, false, false, false] (by kernel_rfl) rfl rfl ⟨(blk_cell K12.out 0).trans rfl, (blk_cell K4.out 0).trans rfl, hx _ (below_drew1 HB.out)⟩ (fun hHeld => ?_)
          replace K3 := Aside0.mk (blk_drew K3.out)
          replace K4 := Aside0.mk (blk_drew K4.out)
          replace K7 := Aside0.mk (blk_drew K7.out)
          replace K8 := Aside0.mk (blk_drew K8.out)
          replace K12 := Aside0.mk (blk_drew K12.out)
          replace HC := Aside0.mk (Kd.R_drew HC.out)
          replace HO := Aside0.mk (Kd.R_drew HO.out)
          replace HR := Aside0.mk (Kd.R_drew HR.out)
          replace HE := Aside0.mk (Kd.R_drew HE.out)
          replace HB := Aside0.mk (below_drew1 HB.out)
          generalize World.drew wr = wd at K3 K4 K7 K8 K12 HB HC HO HR HE hHeld ⊢
          refine pvq_ 0 (some 166) rfl rfl ?_
          refine pvq_ 2 (some 168) rfl rfl ?_
          refine pvq_ 4 (some 170) rfl rfl ?_
          refine pvq_ 7 (some 173) rfl rfl ?_
          refine tkq_ 1 (some 167) rfl rfl hHeld ?_
          refine tkq_ 3 (some 169) rfl rfl hHeld ?_
          refine pvq_ 5 (some 171) rfl rfl ?_
          refine tkq_ 6 (some 172) rfl rfl hHeld ?_
          refine pvq_ 8 (some 174) rfl rfl ?_
          refine onq_ 9 (some 175) rfl rfl (fun K hK => ?_)
          refine value_ (w1 := World.alloc wd (.cells #[.int .u16 (IntKind.u16.wrap (rd m0 i + y))] 24)) (v := .slice (some ⟨wd.heap.size, 0, none⟩) 1 1) (by rfl) rfl ?_ ?_
          · first | kernel_rfl | (go_simp; done) | (go_simp; rfl)
          refine hK.out _ _ ⟨(blk_cell (blk_below K12.out (below_alloc (Below.refl wd.heap.size wd) (.cells #[.int .u16 (IntKind.u16.wrap (rd m0 i + y))] 24))) 0).trans rfl, (blk_cell (blk_below K4.out (below_alloc (Below.refl wd.heap.size wd) (.cells #[.int .u16 (IntKind.u16.wrap (rd m0 i + y))] 24))) 0).trans rfl, hx _ (below_step HB.out (below_alloc (Below.refl wd.heap.size wd) (.cells #[.int .u16 (IntKind.u16.wrap (rd m0 i + y))] 24)))⟩ (fun hHeld => ?_)
          clear hK K
          refine nmq_ (some 175) ?_
          refine onq_ 10 (some 176) rfl rfl (fun K hK => ?_)
          refine Kd.R_append_step (Kd.int .u16) (w0 := w) w.heap.size ?hw (.tmp 167) (.tmp 175) 27 24 (.int .u16 0) 2 ?ho Tryz.underlying27 infoWord6 rfl (by decide) (by decide) (.slice AE lE.length cE) lE (IntKind.u16.wrap (rd m0 i + y)) [.int .u16 (IntKind.u16.wrap (rd m0 i + y))] (fun _ => True) (fun _ => False) ?hs ?hx ?hp (fun _ hk => hk.elim) (fun _ _ => trivial) HE.out HB.out HB.out.size ?hl ?_
          case hw => rfl
          case ho => rfl
          case hs => rfl
          case hx => rfl
          case hp => rfl
          case hl => (have := hl.out.1; have := hg.out; have := Q0.out; have := Q1.out; omega)
          intro v1 w1 hr hb hgr hat
          replace K3 := Aside0.mk ((hgr.block g3 (blk_lt K3.out) (Kd.R_ne HE.out K3.out (by decide))).trans K3.out)
          replace K4 := Aside0.mk ((hgr.block g4 (blk_lt K4.out) (Kd.R_ne HE.out K4.out (by decide))).trans K4.out)
          replace K7 := Aside0.mk ((hgr.block g7 (blk_lt K7.out) (Kd.R_ne HE.out K7.out (by decide))).trans K7.out)
          replace K8 := Aside0.mk ((hgr.block g8 (blk_lt K8.out) (Kd.R_ne HE.out K8.out (by decide))).trans K8.out)
          replace K12 := Aside0.mk ((hgr.block g12 (blk_lt K12.out) (Kd.R_ne HE.out K12.out (by decide))).trans K12.out)
          replace HC := Aside0.mk (Kd.R_over HC.out HE.out (fun q hq => by rw [ekC q hq]; decide) hgr)
          replace HO := Aside0.mk (Kd.R_over HO.out HE.out (fun q hq => by rw [ekC q hq]; decide) hgr)
          replace HR := Aside0.mk (Kd.R_over HR.out HE.out (fun q hq => by rw [ekS q hq]; decide) hgr)
          have hx' := hx _ hb
          replace HB := Aside0.mk hb
          replace HE := Aside0.mk hr
          obtain ⟨AX, cX, ev⟩ := Kd.R_slice hr
          subst ev
          clear hr hb hgr hat
          refine hK.out _ _ ⟨(blk_cell K12.out 0).trans rfl, (blk_cell K4.out 0).trans rfl, hx'⟩ (fun hHeld => ?_)
          clear hK K
          refine nmq_ (some 176) ?_
          refine pvq_ 11 (some 177) rfl rfl ?_
          refine laq_ 12 none rfl rfl (fun K hK => ?_)
          refine skip_ (w1 := World.setCell w1 ⟨g12, 0, none⟩ (.slice AX (lE ++ [IntKind.u16.wrap (rd m0 i + y)]).length cX)) (by rfl) rfl ?_ ?_
          · exact run_store_cell _ _ _ rfl g12 0 rfl (.slice AX (lE ++ [IntKind.u16.wrap (rd m0 i + y)]).length cX) rfl (.slice AE lE.length cE) ((blk_cell K12.out 0).trans rfl) (blk_frozen K12.out 0) rfl rfl (by kernel_rfl)
          replace HC := Aside0.mk (show Kd.R _ _ (World.setCell w1 ⟨g12, 0, none⟩ (.slice AX (lE ++ [IntKind.u16.wrap (rd m0 i + y)]).length cX)) _ _ _ _ from Kd.R_set HC.out K12.out (fun q hq => by rw [ekC q hq]; decide) 0 _)
          replace HO := Aside0.mk (show Kd.R _ _ (World.setCell w1 ⟨g12, 0, none⟩ (.slice AX (lE ++ [IntKind.u16.wrap (rd m0 i + y)]).length cX)) _ _ _ _ from Kd.R_set HO.out K12.out (fun q hq => by rw [ekC q hq]; decide) 0 _)
          replace HR := Aside0.mk (show Kd.R _ _ (World.setCell w1 ⟨g12, 0, none⟩ (.slice AX (lE ++ [IntKind.u16.wrap (rd m0 i + y)]).length cX)) _ _ _ _ from Kd.R_set HR.out K12.out (fun q hq => by rw [ekS q hq]; decide) 0 _)
          replace HE := Aside0.mk (show Kd.R _ _ (World.setCell w1 ⟨g12, 0, none⟩ (.slice AX (lE ++ [IntKind.u16.wrap (rd m0 i + y)]).length cX)) _ _ _ _ from Kd.R_set HE.out K12.out (fun q hq => by rw [ekI q hq]; decide) 0 _)
          replace K3 := Aside0.mk (show (World.setCell w1 ⟨g12, 0, none⟩ (.slice AX (lE ++ [IntKind.u16.wrap (rd m0 i + y)]).length cX)).heap[g3]? = _ from blk_far K3.out NE3_12.out _)
          replace K4 := Aside0.mk (show (World.setCell w1 ⟨g12, 0, none⟩ (.slice AX (lE ++ [IntKind.u16.wrap (rd m0 i + y)]).length cX)).heap[g4]? = _ from blk_far K4.out NE4_12.out _)
          replace K7 := Aside0.mk (show (World.setCell w1 ⟨g12, 0, none⟩ (.slice AX (lE ++ [IntKind.u16.wrap (rd m0 i + y)]).length cX)).heap[g7]? = _ from blk_far K7.out NE7_12.out _)
          replace K8 := Aside0.mk (show (World.setCell w1 ⟨g12, 0, none⟩ (.slice AX (lE ++ [IntKind.u16.wrap (rd m0 i + y)]).length cX)).heap[g8]? = _ from blk_far K8.out NE8_12.out _)
          replace HB := Aside0.mk (show Below _ _ (World.setCell w1 ⟨g12, 0, none⟩ (.slice AX (lE ++ [IntKind.u16.wrap (rd m0 i + y)]).length cX)) from below_set HB.out L12.out)
          replace K12 := Aside0.mk (show (World.setCell w1 ⟨g12, 0, none⟩ (.slice AX (lE ++ [IntKind.u16.wrap (rd m0 i + y)]).length cX)).heap[g12]? = some (.cells #[.slice AX (lE ++ [IntKind.u16.wrap (rd m0 i + y)]).length cX, .slice none 0 0, .slice A2 q2 k2] 29 (0, 0)) from blk_put K12.out 0 _ rfl)
          generalize World.setCell w1 ⟨g12, 0, none⟩ (.slice AX (lE ++ [IntKind.u16.wrap (rd m0 i + y)]).length cX) = wf at K3 K4 K7 K8 K12 HB HC HO HR HE ⊢
          refine hK.out _ _ ?_
          clear hK K
          refine done_ (by kernel_rfl) ?_
          go_wp2
          go_roundg g
          case measure => omega
          case rel => exact ⟨i + 1, AX, _, cX, _, by simp [wq], ⟨by have := hg.out; omega, by have := hg.out; omega⟩, ⟨app_b hl.out Y0.out HV.out.be i0⟩, K12, HE, K3, K4, K7, K8, HC, HO, HR, HB⟩
        · have b3 : decide (i < (q0 : Int)) = false := decide_eq_false hlt
          replace hl := Aside0.mk (show lE.length = q0 ∧ rngL lE from ⟨by have := hl.out.1; have := hg.out; omega, hl.out.2⟩)
          clear hg hlt
          have HLE := hl
          clear hl
          go_wp2
          go_loopg [14] q1 (fun g v14 w' => ∃ (i : Int) (AF : Option Addr) (nF cF : Nat) (lF : List Int), v14 = .int .i64 i ∧ Aside0 (0 ≤ i ∧ i + g = (q1 : Nat)) ∧ Aside0 ((lF.length : Int) = i ∧ rngL lF) ∧ Aside0 ((World.heap w')[g12]? = some (.cells #[.slice AE nE cE, .slice AF nF cF, .slice A2 q2 k2] 29 (0, 0))) ∧ Aside0 (Kd.R (Kd.int .u16) 24 w' w.heap.size (fun k => True ∧ some k ≠ (Value.slice AF nF cF).ownBlock) (.slice AE nE cE) lE) ∧ Aside0 (Kd.R (Kd.int .u16) 24 w' w.heap.size (fun _ => True) (.slice AF nF cF) lF) ∧ Aside0 ((World.heap w')[g3]? = some (.cells #[.int .u16 r.a, .int .u16 r.l, .int .u16 r.q, .int .i64 r.z, .int .i64 r.eb, .int .i64 r.fb, .int .i64 r.su, .bool r.ext, .int .u16 r.idx, .bool r.held, .int .u16 r.b, .bool r.inh, .bool r.srv] 26 (0, 0))) ∧ Aside0 ((World.heap w')[g4]? = some (.cells #[.slice A0 q0 k0, .slice A1 q1 k1, .slice A2 q2 k2] 29 (0, 0))) ∧ Aside0 ((World.heap w')[g7]? = some (.cells #[.int .u16 s.r.a, .int .u16 s.r.l, .int .u16 s.r.q, .int .i64 s.r.z, .int .i64 s.r.eb, .int .i64 s.r.fb, .int .i64 s.r.su, .bool s.r.ext, .int .u16 s.r.idx, .bool s.r.held, .int .u16 s.r.b, .bool s.r.inh, .bool s.r.srv] 26 (0, 0))) ∧ Aside0 ((World.heap w')[g8]? = some (.cells #[.slice AC1 s.cells.length eC1, .slice AO1 s.outs.length eO1, .slice AR1 s.reads.length eR1, .int .i64 s.cyc, .int .u8 s.op] 48 (0, 0))) ∧ Aside0 (Kd.R k61 61 w' w.heap.size (fun _ => True) (.slice AC1 s.cells.length eC1) s.cells) ∧ Aside0 (Kd.R k61 61 w' w.heap.size (fun _ => True) (.slice AO1 s.outs.length eO1) s.outs) ∧ Aside0 (Kd.R k64 64 w' w.heap.size (fun _ => True) (.slice AR1 s.reads.length eR1) s.reads) ∧ Aside0 (Below w.heap.size w w'))
          case atStart => exact ⟨0, none, 0, 0, [], rfl, ⟨by decide, by omega⟩, ⟨rfl, fun k => ⟨by simp [rd], by simp [rd]⟩⟩, K12, ⟨Kd.R_apart_nil HE.out⟩, ⟨Kd.R_nil _ _ _ _ _⟩, K3, K4, K7, K8, HC, HO, HR, HB⟩
          case round =>
           as_aux_lemma =>
           clear K3 K4 K7 K8 K12 HC HO HR HB HE
           obtain ⟨i, AF, nF, cF, lF, rfl, hg, hl, K12, HE, HF, K3, K4, K7, K8, HC, HO, HR, HB⟩ := hrel
           have x4_1 : wr.cell? ⟨g4, 1, none⟩ = some (.slice A1 q1 k1) := (blk_cell K4.out 1).trans rfl
           by_cases hlt : i < (q1 : Int)
           · obtain ⟨g, rfl⟩ : ∃ g, gk = g + 1 := ⟨gk - 1, by have := hg.out; omega⟩
             have b3 : decide (i < (q1 : Int)) = true := decide_eq_true hlt
             have i0 := hg.out.1
             have wq := wl i0 hlt (by have := Q0.out; have := Q1.out; omega)
             obtain ⟨ad, eA, hx⟩ : ∃ ad, A1 = some ad ∧ ∀ W, Below w.heap.size w W → W.cell? (ad.add i.toNat) = some (.int .u16 (rd m1 i)) := by
              obtain ⟨ad, eA, _⟩ := Kd.at_int HV.out.cf i i0 (by show i < (m1.length : Int); rw [E1.out]; exact hlt)
              refine ⟨ad, eA, fun W hb => ?_⟩
              obtain ⟨ad', eA', h⟩ := Kd.at_int (HV.out.below hb).cf i i0 (by show i < (m1.length : Int); rw [E1.out]; exact hlt)
              rw [eA] at eA'; cases eA'; exact h
             subst eA
             obtain rfl : nF = lF.length := (Kd.R_reads' HF.out).1
             have i0b := eq_true i0
             have i1b := eq_true hlt
             go_upto_region 25 with fail
             clear x4_1
             refine start_ (n := 13) (S := fun w' => w'.cell? ⟨g12, 1, none⟩ = some (.slice AF lF.length cF) ∧ w'.cell? ⟨g4, 1, none⟩ = some (.slice (some ad) q1 k1) ∧ w'.cell? (Addr.add ad i.toNat) = some (.int .u16 (rd m1 i))) (ds := [12]) #[false, false, false, false, false, false, false, false, false, false, false, false, false] (by kernel_rfl) rfl rfl ⟨(blk_cell K12.out 1).trans rfl, (blk_cell K4.out 1).trans rfl, hx _ (below_drew1 HB.out)⟩ (fun hHeld => ?_)
             replace K3 := Aside0.mk (blk_drew K3.out)
             replace K4 := Aside0.mk (blk_drew K4.out)
             replace K7 := Aside0.mk (blk_drew K7.out)
             replace K8 := Aside0.mk (blk_drew K8.out)
             replace K12 := Aside0.mk (blk_drew K12.out)
             replace HC := Aside0.mk (Kd.R_drew HC.out)
             replace HO := Aside0.mk (Kd.R_drew HO.out)
             replace HR := Aside0.mk (Kd.R_drew HR.out)
             replace HE := Aside0.mk (Kd.R_drew HE.out)
             replace HF := Aside0.mk (Kd.R_drew HF.out)
             replace HB := Aside0.mk (below_drew1 HB.out)
             generalize World.drew wr = wd at K3 K4 K7 K8 K12 HB HC HO HR HE HF hHeld ⊢
             refine pvq_ 0 (some 185) rfl rfl ?_
             refine pvq_ 2 (some 187) rfl rfl ?_
             refine pvq_ 4 (some 189) rfl rfl ?_
             refine pvq_ 7 (some 192) rfl rfl ?_
             refine tkq_ 1 (some 186) rfl rfl hHeld ?_
             refine tkq_ 3 (some 188) rfl rfl hHeld ?_
             refine pvq_ 5 (some 190) rfl rfl ?_
             refine tkq_ 6 (some 191) rfl rfl hHeld ?_
             refine pvq_ 8 (some 193) rfl rfl ?_
             refine onq_ 9 (some 194) rfl rfl (fun K hK => ?_)
             refine value_ (w1 := World.alloc wd (.cells #[.int .u16 (IntKind.u16.wrap (rd m1 i + y))] 24)) (v := .slice (some ⟨wd.heap.size, 0, none⟩) 1 1) (by rfl) rfl ?_ ?_
             · first | kernel_rfl | (go_simp; done) | (go_simp; rfl)
             refine hK.out _ _ ⟨(blk_cell (blk_below K12.out (below_alloc (Below.refl wd.heap.size wd) (.cells #[.int .u16 (IntKind.u16.wrap (rd m1 i + y))] 24))) 1).trans rfl, (blk_cell (blk_below K4.out (below_alloc (Below.refl wd.heap.size wd) (.cells #[.int .u16 (IntKind.u16.wrap (rd m1 i + y))] 24))) 1).trans rfl, hx _ (below_step HB.out (below_alloc (Below.refl wd.heap.size wd) (.cells #[.int .u16 (IntKind.u16.wrap (rd m1 i + y))] 24)))⟩ (fun hHeld => ?_)
             clear hK K
             refine nmq_ (some 194) ?_
             refine onq_ 10 (some 195) rfl rfl (fun K hK => ?_)
             refine Kd.R_append_step (Kd.int .u16) (w0 := w) w.heap.size ?hw (.tmp 186) (.tmp 194) 27 24 (.int .u16 0) 2 ?ho Tryz.underlying27 infoWord6 rfl (by decide) (by decide) (.slice AF lF.length cF) lF (IntKind.u16.wrap (rd m1 i + y)) [.int .u16 (IntKind.u16.wrap (rd m1 i + y))] (fun _ => True) (fun _ => False) ?hs ?hx ?hp (fun _ hk => hk.elim) (fun _ _ => trivial) HF.out HB.out HB.out.size ?hl ?_
             case hw => rfl
             case ho => rfl
             case hs => rfl
             case hx => rfl
             case hp => rfl
             case hl => (have := hl.out.1; have := hg.out; have := Q0.out; have := Q1.out; omega)
             intro v1 w1 hr hb hgr hat
             replace K3 := Aside0.mk ((hgr.block g3 (blk_lt K3.out) (Kd.R_ne HF.out K3.out (by decide))).trans K3.out)
             replace K4 := Aside0.mk ((hgr.block g4 (blk_lt K4.out) (Kd.R_ne HF.out K4.out (by decide))).trans K4.out)
             replace K7 := Aside0.mk ((hgr.block g7 (blk_lt K7.out) (Kd.R_ne HF.out K7.out (by decide))).trans K7.out)
             replace K8 := Aside0.mk ((hgr.block g8 (blk_lt K8.out) (Kd.R_ne HF.out K8.out (by decide))).trans K8.out)
             replace K12 := Aside0.mk ((hgr.block g12 (blk_lt K12.out) (Kd.R_ne HF.out K12.out (by decide))).trans K12.out)
             replace HC := Aside0.mk (Kd.R_over HC.out HF.out (fun q hq => by rw [ekC q hq]; decide) hgr)
             replace HO := Aside0.mk (Kd.R_over HO.out HF.out (fun q hq => by rw [ekC q hq]; decide) hgr)
             replace HR := Aside0.mk (Kd.R_over HR.out HF.out (fun q hq => by rw [ekS q hq]; decide) hgr)
             replace HE := Aside0.mk (Kd.R_after (ok := fun _ => True) (v := .slice AF lF.length cF) (v1 := v1) HE.out hgr hat)
             have hx' := hx _ hb
             replace HB := Aside0.mk hb
             replace HF := Aside0.mk hr
             obtain ⟨AX, cX, ev⟩ := Kd.R_slice hr
             subst ev
             clear hr hb hgr hat
             refine hK.out _ _ ⟨(blk_cell K12.out 1).trans rfl, (blk_cell K4.out 1).trans rfl, hx'⟩ (fun hHeld => ?_)
             clear hK K
             refine nmq_ (some 195) ?_
             refine pvq_ 11 (some 196) rfl rfl ?_
             refine laq_ 12 none rfl rfl (fun K hK => ?_)
             refine skip_ (w1 := World.setCell w1 ⟨g12, 1, none⟩ (.slice AX (lF ++ [IntKind.u16.wrap (rd m1 i + y)]).length cX)) (by rfl) rfl ?_ ?_
             · exact run_store_cell _ _ _ rfl g12 1 rfl (.slice AX (lF ++ [IntKind.u16.wrap (rd m1 i + y)]).length cX) rfl (.slice AF lF.length cF) ((blk_cell K12.out 1).trans rfl) (blk_frozen K12.out 1) rfl rfl (by kernel_rfl)
             replace HC := Aside0.mk (show Kd.R _ _ (World.setCell w1 ⟨g12, 1, none⟩ (.slice AX (lF ++ [IntKind.u16.wrap (rd m1 i + y)]).length cX)) _ _ _ _ from Kd.R_set HC.out K12.out (fun q hq => by rw [ekC q hq]; decide) 1 _)
             replace HO := Aside0.mk (show Kd.R _ _ (World.setCell w1 ⟨g12, 1, none⟩ (.slice AX (lF ++ [IntKind.u16.wrap (rd m1 i + y)]).length cX)) _ _ _ _ from Kd.R_set HO.out K12.out (fun q hq => by rw [ekC q hq]; decide) 1 _)
             replace HR := Aside0.mk (show Kd.R _ _ (World.setCell w1 ⟨g12, 1, none⟩ (.slice AX (lF ++ [IntKind.u16.wrap (rd m1 i + y)]).length cX)) _ _ _ _ from Kd.R_set HR.out K12.out (fun q hq => by rw [ekS q hq]; decide) 1 _)
             replace HE := Aside0.mk (show Kd.R _ _ (World.setCell w1 ⟨g12, 1, none⟩ (.slice AX (lF ++ [IntKind.u16.wrap (rd m1 i + y)]).length cX)) _ _ _ _ from Kd.R_set HE.out K12.out (fun q hq => by rw [ekI q hq]; decide) 1 _)
             replace HF := Aside0.mk (show Kd.R _ _ (World.setCell w1 ⟨g12, 1, none⟩ (.slice AX (lF ++ [IntKind.u16.wrap (rd m1 i + y)]).length cX)) _ _ _ _ from Kd.R_set HF.out K12.out (fun q hq => by rw [ekI q hq]; decide) 1 _)
             replace K3 := Aside0.mk (show (World.setCell w1 ⟨g12, 1, none⟩ (.slice AX (lF ++ [IntKind.u16.wrap (rd m1 i + y)]).length cX)).heap[g3]? = _ from blk_far K3.out NE3_12.out _)
             replace K4 := Aside0.mk (show (World.setCell w1 ⟨g12, 1, none⟩ (.slice AX (lF ++ [IntKind.u16.wrap (rd m1 i + y)]).length cX)).heap[g4]? = _ from blk_far K4.out NE4_12.out _)
             replace K7 := Aside0.mk (show (World.setCell w1 ⟨g12, 1, none⟩ (.slice AX (lF ++ [IntKind.u16.wrap (rd m1 i + y)]).length cX)).heap[g7]? = _ from blk_far K7.out NE7_12.out _)
             replace K8 := Aside0.mk (show (World.setCell w1 ⟨g12, 1, none⟩ (.slice AX (lF ++ [IntKind.u16.wrap (rd m1 i + y)]).length cX)).heap[g8]? = _ from blk_far K8.out NE8_12.out _)
             replace HB := Aside0.mk (show Below _ _ (World.setCell w1 ⟨g12, 1, none⟩ (.slice AX (lF ++ [IntKind.u16.wrap (rd m1 i + y)]).length cX)) from below_set HB.out L12.out)
             replace K12 := Aside0.mk (show (World.setCell w1 ⟨g12, 1, none⟩ (.slice AX (lF ++ [IntKind.u16.wrap (rd m1 i + y)]).length cX)).heap[g12]? = some (.cells #[.slice AE nE cE, .slice AX (lF ++ [IntKind.u16.wrap (rd m1 i + y)]).length cX, .slice A2 q2 k2] 29 (0, 0)) from blk_put K12.out 1 _ rfl)
             generalize World.setCell w1 ⟨g12, 1, none⟩ (.slice AX (lF ++ [IntKind.u16.wrap (rd m1 i + y)]).length cX) = wf at K3 K4 K7 K8 K12 HB HC HO HR HE HF ⊢
             refine hK.out _ _ ?_
             clear hK K
             refine done_ (by kernel_rfl) ?_
             go_wp2
             go_roundg g
             case measure => omega
             case rel => exact ⟨i + 1, AX, _, cX, _, by simp [wq], ⟨by have := hg.out; omega, by have := hg.out; omega⟩, ⟨app_b hl.out Y0.out HV.out.bf i0⟩, K12, HE, HF, K3, K4, K7, K8, HC, HO, HR, HB⟩
           · have b3 : decide (i < (q1 : Int)) = false := decide_eq_false hlt
             replace hl := Aside0.mk (show lF.length = q1 ∧ rngL lF from ⟨by have := hl.out.1; have := hg.out; omega, hl.out.2⟩)
             clear hg hlt
             have HLF := hl
             clear hl
             have nE' : q0 = nE := ((Kd.R_reads' HE.out).1.trans HLE.out.1).symm
             have nF' : q1 = nF := ((Kd.R_reads' HF.out).1.trans HLF.out.1).symm
             subst nE'
             subst nF'
             replace HF := Aside0.mk (R_apart2 HE.out HF.out)
             have FX : Aside0 (Fx m0 m1 s.reads 0 lE lF) := ⟨⟨HLE.out.1.trans E0.out.symm, HLF.out.1.trans E1.out.symm, HLE.out.2, HLF.out.2, fun j hj => absurd hj (by omega)⟩⟩
             clear HLE HLF
             go_wp2
             go_loopg [15] s.reads.length (fun g v15 w' => ∃ (i : Int) (lE lF : List Int), v15 = .int .i64 i ∧ Aside0 (0 ≤ i ∧ i + g = (s.reads.length : Nat)) ∧ Aside0 (Fx m0 m1 s.reads i lE lF) ∧ Aside0 ((World.heap w')[g12]? = some (.cells #[.slice AE q0 cE, .slice AF q1 cF, .slice A2 q2 k2] 29 (0, 0))) ∧ Aside0 (Kd.R (Kd.int .u16) 24 w' w.heap.size (fun k => True ∧ some k ≠ (Value.slice AF q1 cF).ownBlock) (.slice AE q0 cE) lE) ∧ Aside0 (Kd.R (Kd.int .u16) 24 w' w.heap.size (fun k => True ∧ some k ≠ (Value.slice AE q0 cE).ownBlock) (.slice AF q1 cF) lF) ∧ Aside0 ((World.heap w')[g3]? = some (.cells #[.int .u16 r.a, .int .u16 r.l, .int .u16 r.q, .int .i64 r.z, .int .i64 r.eb, .int .i64 r.fb, .int .i64 r.su, .bool r.ext, .int .u16 r.idx, .bool r.held, .int .u16 r.b, .bool r.inh, .bool r.srv] 26 (0, 0))) ∧ Aside0 ((World.heap w')[g4]? = some (.cells #[.slice A0 q0 k0, .slice A1 q1 k1, .slice A2 q2 k2] 29 (0, 0))) ∧ Aside0 ((World.heap w')[g7]? = some (.cells #[.int .u16 s.r.a, .int .u16 s.r.l, .int .u16 s.r.q, .int .i64 s.r.z, .int .i64 s.r.eb, .int .i64 s.r.fb, .int .i64 s.r.su, .bool s.r.ext, .int .u16 s.r.idx, .bool s.r.held, .int .u16 s.r.b, .bool s.r.inh, .bool s.r.srv] 26 (0, 0))) ∧ Aside0 ((World.heap w')[g8]? = some (.cells #[.slice AC1 s.cells.length eC1, .slice AO1 s.outs.length eO1, .slice AR1 s.reads.length eR1, .int .i64 s.cyc, .int .u8 s.op] 48 (0, 0))) ∧ Aside0 (Kd.R k61 61 w' w.heap.size (fun _ => True) (.slice AC1 s.cells.length eC1) s.cells) ∧ Aside0 (Kd.R k61 61 w' w.heap.size (fun _ => True) (.slice AO1 s.outs.length eO1) s.outs) ∧ Aside0 (Kd.R k64 64 w' w.heap.size (fun _ => True) (.slice AR1 s.reads.length eR1) s.reads) ∧ Aside0 (Below w.heap.size w w'))
             case atStart => exact ⟨0, lE, lF, rfl, ⟨by decide, by omega⟩, FX, K12, HE, HF, K3, K4, K7, K8, HC, HO, HR, HB⟩
             case round =>
              as_aux_lemma =>
              clear FX K12 HE HF K3 K4 K7 K8 HC HO HR HB
              obtain ⟨i, lE, lF, rfl, hg, FX, K12, HE, HF, K3, K4, K7, K8, HC, HO, HR, HB⟩ := hrel
              have x8_2 : wr.cell? ⟨g8, 2, none⟩ = some (.slice AR1 s.reads.length eR1) := (blk_cell K8.out 2).trans rfl
              by_cases hlt : i < (s.reads.length : Int)
              · obtain ⟨g, rfl⟩ : ∃ g, gk = g + 1 := ⟨gk - 1, by have := hg.out; omega⟩
                have b3 : decide (i < (s.reads.length : Int)) = true := decide_eq_true hlt
                have i0 := hg.out.1
                have wq := wl i0 hlt (by have := m10.out; omega)
                obtain ⟨ad, eA, hx0, hx1⟩ := at_T64 (Kd.R_reads' HR.out).2.2 i i0 hlt
                subst eA
                have hsp := NN.out _ (rdS_mem i0 hlt)
                have fx := fun s_ n_ h1 h2 => Fx.next FX.out HV.out.be HV.out.bf NN.out i0 (s := s_) (n := n_) h1 h2
                obtain ⟨n, hn⟩ : ∃ n, (rd_T64 s.reads i).f1 = n := ⟨_, rfl⟩
                obtain ⟨sp, hs_⟩ : ∃ n, (rd_T64 s.reads i).f0 = n := ⟨_, rfl⟩
                replace fx := fx sp n hs_ hn
                have hn0 : 0 ≤ n := by rw [← hn]; exact hsp.1
                have hs12 : sp = 1 ∨ sp = 2 := by rw [← hs_]; exact hsp.2
                rw [hn] at hx1
                rw [hs_] at hx0
                have h20 := Aside0.mk hs_
                clear hn hs_ hsp
                have i0b := eq_true i0
                have i1b := eq_true hlt
                have le0 := Aside0.mk (Kd.R_reads' HE.out).1
                have lf0 := Aside0.mk (Kd.R_reads' HF.out).1
                have x12_0 : wr.cell? ⟨g12, 0, none⟩ = some (.slice AE q0 cE) := (blk_cell K12.out 0).trans rfl
                have x12_1 : wr.cell? ⟨g12, 1, none⟩ = some (.slice AF q1 cF) := (blk_cell K12.out 1).trans rfl
                skip
                rcases hs12 with rfl | rfl
                · rw [show fixL m1 ((1 : Int) == 2) n lF = lF from by unfold fixL; rw [if_neg (by simp)]] at fx
                  by_cases hin : n < (q0 : Int)
                  · as_aux_lemma =>
                    rw [show fixL m0 ((1 : Int) == 1) n lE = lE.set n.toNat (rd m0 n) from by unfold fixL; rw [if_pos ⟨rfl, by have := le0.out; omega⟩]] at fx
                    have tb : decide (n < (q0 : Int)) = true := decide_eq_true hin
                    obtain ⟨gE, rfl⟩ := R_someq HE.out (by omega)
                    have LG := Aside0.mk (Kd.R_base HE.out gE rfl)
                    obtain ⟨ad1, eB, hy⟩ : ∃ ad, A0 = some ad ∧ ∀ W, Below w.heap.size w W → W.cell? (ad.add n.toNat) = some (.int .u16 (rd m0 n)) := by
                     obtain ⟨ad, eA, _⟩ := Kd.at_int HV.out.ce n hn0 (by show n < (m0.length : Int); rw [E0.out]; exact hin)
                     refine ⟨ad, eA, fun W hb => ?_⟩
                     obtain ⟨ad', eA', h⟩ := Kd.at_int (HV.out.below hb).ce n hn0 (by show n < (m0.length : Int); rw [E0.out]; exact hin)
                     rw [eA] at eA'; cases eA'; exact h
                    subst eB
                    have n0b := eq_true hn0
                    have n1b := eq_true hin
                    go_upto_region 33 with fail
                    clear x8_2 hx0 hx1 x12_0 x12_1
                    refine start_ (n := 10) (S := fun w' => w'.cell? ⟨g12, 0, none⟩ = some (.slice (some ⟨gE, 0, none⟩) q0 cE) ∧ w'.cell? ⟨g4, 0, none⟩ = some (.slice (some ad1) q0 k0) ∧ w'.cell? (Addr.add ad1 n.toNat) = some (.int .u16 (rd m0 n))) (ds := [9]) #[false, false, false, false, false, false, false, false, false, false] (by kernel_rfl) rfl rfl ⟨(blk_cell K12.out 0).trans rfl, (blk_cell K4.out 0).trans rfl, hy _ (below_drew1 HB.out)⟩ (fun hHeld => ?_)
                    replace K3 := Aside0.mk (blk_drew K3.out)
                    replace K4 := Aside0.mk (blk_drew K4.out)
                    replace K7 := Aside0.mk (blk_drew K7.out)
                    replace K8 := Aside0.mk (blk_drew K8.out)
                    replace K12 := Aside0.mk (blk_drew K12.out)
                    replace HC := Aside0.mk (Kd.R_drew HC.out)
                    replace HO := Aside0.mk (Kd.R_drew HO.out)
                    replace HR := Aside0.mk (Kd.R_drew HR.out)
                    replace HE := Aside0.mk (Kd.R_drew HE.out)
                    replace HF := Aside0.mk (Kd.R_drew HF.out)
                    replace HB := Aside0.mk (below_drew1 HB.out)
                    generalize World.drew wr = wd at K3 K4 K7 K8 K12 HB HC HO HR HE HF hHeld ⊢
                    obtain ⟨old, hc, hf⟩ := own_cell_v HE.out n hn0 (by omega)
                    refine pvq_ 0 (some 247) rfl rfl ?_
                    refine pvq_ 2 (some 249) rfl rfl ?_
                    refine pvq_ 3 (some 250) rfl rfl ?_
                    refine pvq_ 5 (some 252) rfl rfl ?_
                    refine tkq_ 1 (some 248) rfl rfl hHeld ?_
                    refine tkq_ 4 (some 251) rfl rfl hHeld ?_
                    refine pvq_ 6 (some 253) rfl rfl ?_
                    refine tkq_ 7 (some 254) rfl rfl hHeld ?_
                    refine pvq_ 8 (some 255) rfl rfl ?_
                    refine laq_ 9 none rfl rfl (fun K hK => ?_)
                    refine skip_ (w1 := World.setCell wd ⟨gE, n.toNat, none⟩ (.int .u16 (rd m0 n))) (by rfl) rfl ?_ ?_
                    · exact run_store_cell _ _ _ rfl gE n.toNat rfl (.int .u16 (rd m0 n)) rfl old hc hf rfl rfl (by kernel_rfl)
                    have hp : Kd.R (Kd.int .u16) 24 (World.setCell wd ⟨gE, n.toNat, none⟩ (.int .u16 (rd m0 n))) w.heap.size (fun k => True ∧ some k ≠ (Value.slice AF q1 cF).ownBlock) (.slice (some ⟨gE, 0, none⟩) q0 cE) (lE.set n.toNat (rd m0 n)) ∧ World.grownBy wd (World.setCell wd ⟨gE, n.toNat, none⟩ (.int .u16 (rd m0 n))) (some gE) := Kd.R_putg (enc := Value.int .u16) HE.out n (rd m0 n)
                    replace K3 := Aside0.mk (show (World.setCell wd ⟨gE, n.toNat, none⟩ (.int .u16 (rd m0 n))).heap[g3]? = _ from blk_far K3.out (show g3 ≠ gE from fun e => Kd.R_ne HE.out K3.out (by decide) (congrArg some e)) _)
                    replace K4 := Aside0.mk (show (World.setCell wd ⟨gE, n.toNat, none⟩ (.int .u16 (rd m0 n))).heap[g4]? = _ from blk_far K4.out (show g4 ≠ gE from fun e => Kd.R_ne HE.out K4.out (by decide) (congrArg some e)) _)
                    replace K7 := Aside0.mk (show (World.setCell wd ⟨gE, n.toNat, none⟩ (.int .u16 (rd m0 n))).heap[g7]? = _ from blk_far K7.out (show g7 ≠ gE from fun e => Kd.R_ne HE.out K7.out (by decide) (congrArg some e)) _)
                    replace K8 := Aside0.mk (show (World.setCell wd ⟨gE, n.toNat, none⟩ (.int .u16 (rd m0 n))).heap[g8]? = _ from blk_far K8.out (show g8 ≠ gE from fun e => Kd.R_ne HE.out K8.out (by decide) (congrArg some e)) _)
                    replace K12 := Aside0.mk (show (World.setCell wd ⟨gE, n.toNat, none⟩ (.int .u16 (rd m0 n))).heap[g12]? = _ from blk_far K12.out (show g12 ≠ gE from fun e => Kd.R_ne HE.out K12.out (by decide) (congrArg some e)) _)
                    replace HC := Aside0.mk (Kd.R_over HC.out HE.out (fun q hq => by rw [ekC q hq]; decide) hp.2)
                    replace HO := Aside0.mk (Kd.R_over HO.out HE.out (fun q hq => by rw [ekC q hq]; decide) hp.2)
                    replace HR := Aside0.mk (Kd.R_over HR.out HE.out (fun q hq => by rw [ekS q hq]; decide) hp.2)
                    replace HF := Aside0.mk (Kd.R_after (ok := fun _ => True) (v := .slice (some ⟨gE, 0, none⟩) q0 cE) (v1 := .slice (some ⟨gE, 0, none⟩) q0 cE) HF.out hp.2 (Or.inl rfl))
                    replace HB := Aside0.mk (HB.out.grown hp.2 HB.out.size (fun j hj => by cases hj; exact LG.out))
                    replace HE := Aside0.mk hp.1
                    clear hp hc hf old
                    generalize World.setCell wd ⟨gE, n.toNat, none⟩ (.int .u16 (rd m0 n)) = wf at K3 K4 K7 K8 K12 HB HC HO HR HE HF ⊢
                    refine hK.out _ _ ?_
                    clear hK K
                    refine done_ (by kernel_rfl) ?_
                    go_wp2
                    go_roundg g
                    case measure => omega
                    case rel => exact ⟨i + 1, _, _, by simp [wq], ⟨by have := hg.out; omega, by have := hg.out; omega⟩, ⟨fx⟩, K12, HE, HF, K3, K4, K7, K8, HC, HO, HR, HB⟩
                  · as_aux_lemma =>
                    rw [show fixL m0 ((1 : Int) == 1) n lE = lE from by unfold fixL; rw [if_neg (by rintro ⟨-, h⟩; have := le0.out; omega)]] at fx
                    have tb : decide (n < (q0 : Int)) = false := decide_eq_false hin
                    go_wp2
                    go_roundg g
                    case measure => omega
                    case rel => exact ⟨i + 1, _, _, by simp [wq], ⟨by have := hg.out; omega, by have := hg.out; omega⟩, ⟨fx⟩, K12, HE, HF, K3, K4, K7, K8, HC, HO, HR, HB⟩
                · rw [show fixL m0 ((2 : Int) == 1) n lE = lE from by unfold fixL; rw [if_neg (by simp)]] at fx
                  by_cases hin : n < (q1 : Int)
                  · as_aux_lemma =>
                    rw [show fixL m1 ((2 : Int) == 2) n lF = lF.set n.toNat (rd m1 n) from by unfold fixL; rw [if_pos ⟨rfl, by have := lf0.out; omega⟩]] at fx
                    have tb : decide (n < (q1 : Int)) = true := decide_eq_true hin
                    obtain ⟨gF, rfl⟩ := R_someq HF.out (by omega)
                    have LG := Aside0.mk (Kd.R_base HF.out gF rfl)
                    obtain ⟨ad1, eB, hy⟩ : ∃ ad, A1 = some ad ∧ ∀ W, Below w.heap.size w W → W.cell? (ad.add n.toNat) = some (.int .u16 (rd m1 n)) := by
                     obtain ⟨ad, eA, _⟩ := Kd.at_int HV.out.cf n hn0 (by show n < (m1.length : Int); rw [E1.out]; exact hin)
                     refine ⟨ad, eA, fun W hb => ?_⟩
                     obtain ⟨ad', eA', h⟩ := Kd.at_int (HV.out.below hb).cf n hn0 (by show n < (m1.length : Int); rw [E1.out]; exact hin)
                     rw [eA] at eA'; cases eA'; exact h
                    subst eB
                    have n0b := eq_true hn0
                    have n1b := eq_true hin
                    go_upto_region 31 with fail
                    clear x8_2 hx0 hx1 x12_0 x12_1
                    refine start_ (n := 10) (S := fun w' => w'.cell? ⟨g12, 1, none⟩ = some (.slice (some ⟨gF, 0, none⟩) q1 cF) ∧ w'.cell? ⟨g4, 1, none⟩ = some (.slice (some ad1) q1 k1) ∧ w'.cell? (Addr.add ad1 n.toNat) = some (.int .u16 (rd m1 n))) (ds := [9]) #[false, false, false, false, false, false, false, false, false, false] (by kernel_rfl) rfl rfl ⟨(blk_cell K12.out 1).trans rfl, (blk_cell K4.out 1).trans rfl, hy _ (below_drew1 HB.out)⟩ (fun hHeld => ?_)
                    replace K3 := Aside0.mk (blk_drew K3.out)
                    replace K4 := Aside0.mk (blk_drew K4.out)
                    replace K7 := Aside0.mk (blk_drew K7.out)
                    replace K8 := Aside0.mk (blk_drew K8.out)
                    replace K12 := Aside0.mk (blk_drew K12.out)
                    replace HC := Aside0.mk (Kd.R_drew HC.out)
                    replace HO := Aside0.mk (Kd.R_drew HO.out)
                    replace HR := Aside0.mk (Kd.R_drew HR.out)
                    replace HE := Aside0.mk (Kd.R_drew HE.out)
                    replace HF := Aside0.mk (Kd.R_drew HF.out)
                    replace HB := Aside0.mk (below_drew1 HB.out)
                    generalize World.drew wr = wd at K3 K4 K7 K8 K12 HB HC HO HR HE HF hHeld ⊢
                    obtain ⟨old, hc, hf⟩ := own_cell_v HF.out n hn0 (by omega)
                    refine pvq_ 0 (some 224) rfl rfl ?_
                    refine pvq_ 2 (some 226) rfl rfl ?_
                    refine pvq_ 3 (some 227) rfl rfl ?_
                    refine pvq_ 5 (some 229) rfl rfl ?_
                    refine tkq_ 1 (some 225) rfl rfl hHeld ?_
                    refine tkq_ 4 (some 228) rfl rfl hHeld ?_
                    refine pvq_ 6 (some 230) rfl rfl ?_
                    refine tkq_ 7 (some 231) rfl rfl hHeld ?_
                    refine pvq_ 8 (some 232) rfl rfl ?_
                    refine laq_ 9 none rfl rfl (fun K hK => ?_)
                    refine skip_ (w1 := World.setCell wd ⟨gF, n.toNat, none⟩ (.int .u16 (rd m1 n))) (by rfl) rfl ?_ ?_
                    · exact run_store_cell _ _ _ rfl gF n.toNat rfl (.int .u16 (rd m1 n)) rfl old hc hf rfl rfl (by kernel_rfl)
                    have hp : Kd.R (Kd.int .u16) 24 (World.setCell wd ⟨gF, n.toNat, none⟩ (.int .u16 (rd m1 n))) w.heap.size (fun k => True ∧ some k ≠ (Value.slice AE q0 cE).ownBlock) (.slice (some ⟨gF, 0, none⟩) q1 cF) (lF.set n.toNat (rd m1 n)) ∧ World.grownBy wd (World.setCell wd ⟨gF, n.toNat, none⟩ (.int .u16 (rd m1 n))) (some gF) := Kd.R_putg (enc := Value.int .u16) HF.out n (rd m1 n)
                    replace K3 := Aside0.mk (show (World.setCell wd ⟨gF, n.toNat, none⟩ (.int .u16 (rd m1 n))).heap[g3]? = _ from blk_far K3.out (show g3 ≠ gF from fun e => Kd.R_ne HF.out K3.out (by decide) (congrArg some e)) _)
                    replace K4 := Aside0.mk (show (World.setCell wd ⟨gF, n.toNat, none⟩ (.int .u16 (rd m1 n))).heap[g4]? = _ from blk_far K4.out (show g4 ≠ gF from fun e => Kd.R_ne HF.out K4.out (by decide) (congrArg some e)) _)
                    replace K7 := Aside0.mk (show (World.setCell wd ⟨gF, n.toNat, none⟩ (.int .u16 (rd m1 n))).heap[g7]? = _ from blk_far K7.out (show g7 ≠ gF from fun e => Kd.R_ne HF.out K7.out (by decide) (congrArg some e)) _)
                    replace K8 := Aside0.mk (show (World.setCell wd ⟨gF, n.toNat, none⟩ (.int .u16 (rd m1 n))).heap[g8]? = _ from blk_far K8.out (show g8 ≠ gF from fun e => Kd.R_ne HF.out K8.out (by decide) (congrArg some e)) _)
                    replace K12 := Aside0.mk (show (World.setCell wd ⟨gF, n.toNat, none⟩ (.int .u16 (rd m1 n))).heap[g12]? = _ from blk_far K12.out (show g12 ≠ gF from fun e => Kd.R_ne HF.out K12.out (by decide) (congrArg some e)) _)
                    replace HC := Aside0.mk (Kd.R_over HC.out HF.out (fun q hq => by rw [ekC q hq]; decide) hp.2)
                    replace HO := Aside0.mk (Kd.R_over HO.out HF.out (fun q hq => by rw [ekC q hq]; decide) hp.2)
                    replace HR := Aside0.mk (Kd.R_over HR.out HF.out (fun q hq => by rw [ekS q hq]; decide) hp.2)
                    replace HE := Aside0.mk (Kd.R_after (ok := fun _ => True) (v := .slice (some ⟨gF, 0, none⟩) q1 cF) (v1 := .slice (some ⟨gF, 0, none⟩) q1 cF) HE.out hp.2 (Or.inl rfl))
                    replace HB := Aside0.mk (HB.out.grown hp.2 HB.out.size (fun j hj => by cases hj; exact LG.out))
                    replace HF := Aside0.mk hp.1
                    clear hp hc hf old
                    generalize World.setCell wd ⟨gF, n.toNat, none⟩ (.int .u16 (rd m1 n)) = wf at K3 K4 K7 K8 K12 HB HC HO HR HE HF ⊢
                    refine hK.out _ _ ?_
                    clear hK K
                    refine done_ (by kernel_rfl) ?_
                    have x8_2 : wf.cell? ⟨g8, 2, none⟩ = some (.slice (some ad) s.reads.length eR1) := (blk_cell K8.out 2).trans rfl
                    obtain ⟨ad2, eC, hz0, hz1⟩ := at_T64 (Kd.R_reads' HR.out).2.2 i i0 hlt
                    cases eC
                    rw [h20.out] at hz0
                    go_wp2
                    go_roundg g
                    case measure => omega
                    case rel => exact ⟨i + 1, _, _, by simp [wq], ⟨by have := hg.out; omega, by have := hg.out; omega⟩, ⟨fx⟩, K12, HE, HF, K3, K4, K7, K8, HC, HO, HR, HB⟩
                  · as_aux_lemma =>
                    rw [show fixL m1 ((2 : Int) == 2) n lF = lF from by unfold fixL; rw [if_neg (by rintro ⟨-, h⟩; have := lf0.out; omega)]] at fx
                    have tb : decide (n < (q1 : Int)) = false := decide_eq_false hin
                    go_wp2
                    go_roundg g
                    case measure => omega
                    case rel => exact ⟨i + 1, _, _, by simp [wq], ⟨by have := hg.out; omega, by have := hg.out; omega⟩, ⟨fx⟩, K12, HE, HF, K3, K4, K7, K8, HC, HO, HR, HB⟩
              · have b3 : decide (i < (s.reads.length : Int)) = false := decide_eq_false hlt
                have hi : i = (s.reads.length : Nat) := by have := hg.out; omega
                subst hi
                have le0 := (Kd.R_reads' HE.out).1
                have lf0 := (Kd.R_reads' HF.out).1
                have lo := LO.out lE lF (Fx.all FX.out NN.out)
                have HU : Aside0 (VwAt wr AE AF A2 ⟨lE, lF, m2⟩) := ⟨⟨(Kd.R_reads' HE.out).2.2, (Kd.R_reads' HF.out).2.2, (HV.out.below HB.out).cc, FX.out.eb, FX.out.fb, HV.out.bc⟩⟩
                have KE2 := Aside0.mk (fun (w' : World) hv => step_g (A0 := AE) (A1 := AF) (A2 := A2) (q0 := q0) (q1 := q1) (q2 := q2) (k0 := cE) (k1 := cF) (k2 := k2) r lE lF m2 s w' le0.symm lf0.symm E2.out hv (Kd.R_reads' HE.out).2.1 (Kd.R_reads' HF.out).2.1 G2.out HK.out lo.2 lo.1)
                obtain ⟨kc, hkc⟩ := cells_self s.cells (by have := m8.out; omega)
                obtain ⟨ko, hko⟩ := cells_self s.outs (by have := m9.out; omega)
                have HKC := Aside0.mk hkc
                have HKO := Aside0.mk hko
                have eqc := beq_self_eq_true (s.cyc)
                have eqo := beq_self_eq_true (s.op)
                have eqr := beq_self_eq_true ((s.reads.length : Nat) : Int)
                clear hg hlt lo le0 lf0 hkc hko
                go_upto_region 34 with fail
                clear x8_2
                go_upto_region 35 with (first | (refine load_row_ rfl 26 _ rfl g3 rfl #[.int .u16 r.a, .int .u16 r.l, .int .u16 r.q, .int .i64 r.z, .int .i64 r.eb, .int .i64 r.fb, .int .i64 r.su, .bool r.ext, .int .u16 r.idx, .bool r.held, .int .u16 r.b, .bool r.inh, .bool r.srv] _ K3.out _ Tryz.underlying26 rfl (by kernel_rfl) ?_) | (refine load_row_ rfl 29 _ rfl g12 rfl #[.slice AE q0 cE, .slice AF q1 cF, .slice A2 q2 k2] _ K12.out _ Tryz.underlying29 rfl (by kernel_rfl) ?_) | (go_at_call 21; (with_reducible refine at_args #[.agg #[.int .u16 r.a, .int .u16 r.l, .int .u16 r.q, .int .i64 r.z, .int .i64 r.eb, .int .i64 r.fb, .int .i64 r.su, .bool r.ext, .int .u16 r.idx, .bool r.held, .int .u16 r.b, .bool r.inh, .bool r.srv], .agg #[.slice AE q0 cE, .slice AF q1 cF, .slice A2 q2 k2]] ?_); (with_reducible refine (KE2.out _ HU.out).mono ?_); rintro e wc ⟨vC, vO, vR, rfl, hC, hO, hR, hb⟩; obtain ⟨AC2, eC2, rfl⟩ := Kd.R_slice hC; obtain ⟨AO2, eO2, rfl⟩ := Kd.R_slice hO; obtain ⟨AR2, eR2, rfl⟩ := Kd.R_slice hR; have HBo := HB; (try replace HC := Aside0.mk (Kd.R_below HC.out hb)); (try replace HO := Aside0.mk (Kd.R_below HO.out hb)); (try replace K3 := kbb_ K3 hb); (try replace K4 := kbb_ K4 hb); (try replace K7 := kbb_ K7 hb); (try replace K8 := kbb_ K8 hb); (try replace K12 := kbb_ K12 hb); (try replace K17 := kbb_ K17 hb); (try replace K18 := kbb_ K18 hb); replace HB := hbs_ HB hb; have HC2 := Aside0.mk (Kd.R_mono (Kd.R_lower hC HBo.out.size) (fun _ _ => trivial)); have HO2 := Aside0.mk (Kd.R_mono (Kd.R_lower hO HBo.out.size) (fun _ _ => trivial)); clear hC hO hR hb HBo HU) | (refine boxq_ 17 #[.int .u16 0, .int .u16 0, .int .u16 0, .int .i64 0, .int .i64 0, .int .i64 0, .int .i64 0, .bool false, .int .u16 0, .bool false, .int .u16 0, .bool false, .bool false] 26 ?_; intro g17 hg wb K hb; (try have NE3_17 := nkb_ K3 hg); (try have NE4_17 := nkb_ K4 hg); (try have NE7_17 := nkb_ K7 hg); (try have NE8_17 := nkb_ K8 hg); (try have NE12_17 := nkb_ K12 hg); (try have NE17_17 := nkb_ K17 hg); (try have NE18_17 := nkb_ K18 hg); have L17 := lkb_ HB hg; (try replace HC := Aside0.mk (Kd.R_below HC.out hb)); (try replace HO := Aside0.mk (Kd.R_below HO.out hb)); (try replace HC2 := Aside0.mk (Kd.R_below HC2.out hb)); (try replace HO2 := Aside0.mk (Kd.R_below HO2.out hb)); (try replace K3 := kbb_ K3 hb); (try replace K4 := kbb_ K4 hb); (try replace K7 := kbb_ K7 hb); (try replace K8 := kbb_ K8 hb); (try replace K12 := kbb_ K12 hb); (try replace K17 := kbb_ K17 hb); (try replace K18 := kbb_ K18 hb); replace HB := hbs_ HB hb; have K17 := Aside0.mk K; clear K hb hg) | (refine boxq_ 18 #[.slice none 0 0, .slice none 0 0, .slice none 0 0, .int .i64 0, .int .u8 0] 48 ?_; intro g18 hg wb K hb; (try have NE3_18 := nkb_ K3 hg); (try have NE4_18 := nkb_ K4 hg); (try have NE7_18 := nkb_ K7 hg); (try have NE8_18 := nkb_ K8 hg); (try have NE12_18 := nkb_ K12 hg); (try have NE17_18 := nkb_ K17 hg); (try have NE18_18 := nkb_ K18 hg); have L18 := lkb_ HB hg; (try replace HC := Aside0.mk (Kd.R_below HC.out hb)); (try replace HO := Aside0.mk (Kd.R_below HO.out hb)); (try replace HC2 := Aside0.mk (Kd.R_below HC2.out hb)); (try replace HO2 := Aside0.mk (Kd.R_below HO2.out hb)); (try replace K3 := kbb_ K3 hb); (try replace K4 := kbb_ K4 hb); (try replace K7 := kbb_ K7 hb); (try replace K8 := kbb_ K8 hb); (try replace K12 := kbb_ K12 hb); (try replace K17 := kbb_ K17 hb); (try replace K18 := kbb_ K18 hb); replace HB := hbs_ HB hb; have K18 := Aside0.mk K; clear K hb hg) | (refine strq_ 26 17 260 g17 #[.int .u16 s.r.a, .int .u16 s.r.l, .int .u16 s.r.q, .int .i64 s.r.z, .int .i64 s.r.eb, .int .i64 s.r.fb, .int .i64 s.r.su, .bool s.r.ext, .int .u16 s.r.idx, .bool s.r.held, .int .u16 s.r.b, .bool s.r.inh, .bool s.r.srv] K17 ?_; intro ws hk hfar hbel hkp; (try replace HC := Aside0.mk (R_kb HC.out K17.out (fun q hq => by rw [ekC q hq]; decide) hkp)); (try replace HO := Aside0.mk (R_kb HO.out K17.out (fun q hq => by rw [ekC q hq]; decide) hkp)); (try replace HC2 := Aside0.mk (R_kb HC2.out K17.out (fun q hq => by rw [ekC q hq]; decide) hkp)); (try replace HO2 := Aside0.mk (R_kb HO2.out K17.out (fun q hq => by rw [ekC q hq]; decide) hkp)); replace HB := Aside0.mk (hbel _ _ HB.out L17.out); (try replace K3 := hfr_ hfar K3 (by first | exact NE3_17.out | exact NE17_3.out.symm)); (try replace K4 := hfr_ hfar K4 (by first | exact NE4_17.out | exact NE17_4.out.symm)); (try replace K7 := hfr_ hfar K7 (by first | exact NE7_17.out | exact NE17_7.out.symm)); (try replace K8 := hfr_ hfar K8 (by first | exact NE8_17.out | exact NE17_8.out.symm)); (try replace K12 := hfr_ hfar K12 (by first | exact NE12_17.out | exact NE17_12.out.symm)); (try replace K18 := hfr_ hfar K18 (by first | exact NE18_17.out | exact NE17_18.out.symm)); replace K17 := Aside0.mk hk; clear hk hfar hbel hkp) | (refine strq_ 48 18 261 g18 #[.slice AC2 s.cells.length eC2, .slice AO2 s.outs.length eO2, .slice AR2 s.reads.length eR2, .int .i64 s.cyc, .int .u8 s.op] K18 ?_; intro ws hk hfar hbel hkp; (try replace HC := Aside0.mk (R_kb HC.out K18.out (fun q hq => by rw [ekC q hq]; decide) hkp)); (try replace HO := Aside0.mk (R_kb HO.out K18.out (fun q hq => by rw [ekC q hq]; decide) hkp)); (try replace HC2 := Aside0.mk (R_kb HC2.out K18.out (fun q hq => by rw [ekC q hq]; decide) hkp)); (try replace HO2 := Aside0.mk (R_kb HO2.out K18.out (fun q hq => by rw [ekC q hq]; decide) hkp)); replace HB := Aside0.mk (hbel _ _ HB.out L18.out); (try replace K3 := hfr_ hfar K3 (by first | exact NE3_18.out | exact NE18_3.out.symm)); (try replace K4 := hfr_ hfar K4 (by first | exact NE4_18.out | exact NE18_4.out.symm)); (try replace K7 := hfr_ hfar K7 (by first | exact NE7_18.out | exact NE18_7.out.symm)); (try replace K8 := hfr_ hfar K8 (by first | exact NE8_18.out | exact NE18_8.out.symm)); (try replace K12 := hfr_ hfar K12 (by first | exact NE12_18.out | exact NE18_12.out.symm)); (try replace K17 := hfr_ hfar K17 (by first | exact NE17_18.out | exact NE18_17.out.symm)); replace K18 := Aside0.mk hk; clear hk hfar hbel hkp))
                have x7_0 : ws.cell? ⟨g7, 0, none⟩ = some (.int .u16 s.r.a) := (blk_cell K7.out 0).trans rfl
                have x7_1 : ws.cell? ⟨g7, 1, none⟩ = some (.int .u16 s.r.l) := (blk_cell K7.out 1).trans rfl
                have x7_2 : ws.cell? ⟨g7, 2, none⟩ = some (.int .u16 s.r.q) := (blk_cell K7.out 2).trans rfl
                have x7_3 : ws.cell? ⟨g7, 3, none⟩ = some (.int .i64 s.r.z) := (blk_cell K7.out 3).trans rfl
                have x7_4 : ws.cell? ⟨g7, 4, none⟩ = some (.int .i64 s.r.eb) := (blk_cell K7.out 4).trans rfl
                have x7_5 : ws.cell? ⟨g7, 5, none⟩ = some (.int .i64 s.r.fb) := (blk_cell K7.out 5).trans rfl
                have x7_6 : ws.cell? ⟨g7, 6, none⟩ = some (.int .i64 s.r.su) := (blk_cell K7.out 6).trans rfl
                have x7_7 : ws.cell? ⟨g7, 7, none⟩ = some (.bool s.r.ext) := (blk_cell K7.out 7).trans rfl
                have x7_8 : ws.cell? ⟨g7, 8, none⟩ = some (.int .u16 s.r.idx) := (blk_cell K7.out 8).trans rfl
                have x7_9 : ws.cell? ⟨g7, 9, none⟩ = some (.bool s.r.held) := (blk_cell K7.out 9).trans rfl
                have x7_10 : ws.cell? ⟨g7, 10, none⟩ = some (.int .u16 s.r.b) := (blk_cell K7.out 10).trans rfl
                have x7_11 : ws.cell? ⟨g7, 11, none⟩ = some (.bool s.r.inh) := (blk_cell K7.out 11).trans rfl
                have x7_12 : ws.cell? ⟨g7, 12, none⟩ = some (.bool s.r.srv) := (blk_cell K7.out 12).trans rfl
                have x17_0 : ws.cell? ⟨g17, 0, none⟩ = some (.int .u16 s.r.a) := (blk_cell K17.out 0).trans rfl
                have x17_1 : ws.cell? ⟨g17, 1, none⟩ = some (.int .u16 s.r.l) := (blk_cell K17.out 1).trans rfl
                have x17_2 : ws.cell? ⟨g17, 2, none⟩ = some (.int .u16 s.r.q) := (blk_cell K17.out 2).trans rfl
                have x17_3 : ws.cell? ⟨g17, 3, none⟩ = some (.int .i64 s.r.z) := (blk_cell K17.out 3).trans rfl
                have x17_4 : ws.cell? ⟨g17, 4, none⟩ = some (.int .i64 s.r.eb) := (blk_cell K17.out 4).trans rfl
                have x17_5 : ws.cell? ⟨g17, 5, none⟩ = some (.int .i64 s.r.fb) := (blk_cell K17.out 5).trans rfl
                have x17_6 : ws.cell? ⟨g17, 6, none⟩ = some (.int .i64 s.r.su) := (blk_cell K17.out 6).trans rfl
                have x17_7 : ws.cell? ⟨g17, 7, none⟩ = some (.bool s.r.ext) := (blk_cell K17.out 7).trans rfl
                have x17_8 : ws.cell? ⟨g17, 8, none⟩ = some (.int .u16 s.r.idx) := (blk_cell K17.out 8).trans rfl
                have x17_9 : ws.cell? ⟨g17, 9, none⟩ = some (.bool s.r.held) := (blk_cell K17.out 9).trans rfl
                have x17_10 : ws.cell? ⟨g17, 10, none⟩ = some (.int .u16 s.r.b) := (blk_cell K17.out 10).trans rfl
                have x17_11 : ws.cell? ⟨g17, 11, none⟩ = some (.bool s.r.inh) := (blk_cell K17.out 11).trans rfl
                have x17_12 : ws.cell? ⟨g17, 12, none⟩ = some (.bool s.r.srv) := (blk_cell K17.out 12).trans rfl
                have x8_0 : ws.cell? ⟨g8, 0, none⟩ = some (.slice AC1 s.cells.length eC1) := (blk_cell K8.out 0).trans rfl
                have x8_1 : ws.cell? ⟨g8, 1, none⟩ = some (.slice AO1 s.outs.length eO1) := (blk_cell K8.out 1).trans rfl
                have x8_2 : ws.cell? ⟨g8, 2, none⟩ = some (.slice AR1 s.reads.length eR1) := (blk_cell K8.out 2).trans rfl
                have x8_3 : ws.cell? ⟨g8, 3, none⟩ = some (.int .i64 s.cyc) := (blk_cell K8.out 3).trans rfl
                have x8_4 : ws.cell? ⟨g8, 4, none⟩ = some (.int .u8 s.op) := (blk_cell K8.out 4).trans rfl
                have x18_0 : ws.cell? ⟨g18, 0, none⟩ = some (.slice AC2 s.cells.length eC2) := (blk_cell K18.out 0).trans rfl
                have x18_1 : ws.cell? ⟨g18, 1, none⟩ = some (.slice AO2 s.outs.length eO2) := (blk_cell K18.out 1).trans rfl
                have x18_2 : ws.cell? ⟨g18, 2, none⟩ = some (.slice AR2 s.reads.length eR2) := (blk_cell K18.out 2).trans rfl
                have x18_3 : ws.cell? ⟨g18, 3, none⟩ = some (.int .i64 s.cyc) := (blk_cell K18.out 3).trans rfl
                have x18_4 : ws.cell? ⟨g18, 4, none⟩ = some (.int .u8 s.op) := (blk_cell K18.out 4).trans rfl
                have h26 := fun d w => eqS26 d w (s.r.a) (s.r.l) (s.r.q) (s.r.z) (s.r.eb) (s.r.fb) (s.r.su) (s.r.ext) (s.r.idx) (s.r.held) (s.r.b) (s.r.inh) (s.r.srv)
                go_wp2_with (first | (go_at_call 30; (with_reducible refine at_args #[.slice AC2 s.cells.length eC2, .slice AC1 s.cells.length eC1] ?_); (with_reducible refine (perilunelaw05_cells.calls _ _ _ s.cells _ _ s.cells true _ (Kd.R_reads' HC2.out).2.2 (Kd.R_reads' HC2.out).2.1 (Kd.R_reads' HC.out).2.2 (Kd.R_reads' HC.out).2.1 HKC.out).mono ?_); rintro e wd ⟨rfl, hd⟩; have hb := drawn_below hd; clear hd; (try replace HC := Aside0.mk (Kd.R_below HC.out hb)); (try replace HO := Aside0.mk (Kd.R_below HO.out hb)); (try replace HC2 := Aside0.mk (Kd.R_below HC2.out hb)); (try replace HO2 := Aside0.mk (Kd.R_below HO2.out hb)); (try replace K3 := kbb_ K3 hb); (try replace K4 := kbb_ K4 hb); (try replace K7 := kbb_ K7 hb); (try replace K8 := kbb_ K8 hb); (try replace K12 := kbb_ K12 hb); (try replace K17 := kbb_ K17 hb); (try replace K18 := kbb_ K18 hb); replace HB := hbs_ HB hb; (try have x8_0 : wd.cell? ⟨g8, 0, none⟩ = some (.slice AC1 s.cells.length eC1) := (blk_cell K8.out 0).trans rfl); (try have x8_1 : wd.cell? ⟨g8, 1, none⟩ = some (.slice AO1 s.outs.length eO1) := (blk_cell K8.out 1).trans rfl); (try have x8_2 : wd.cell? ⟨g8, 2, none⟩ = some (.slice AR1 s.reads.length eR1) := (blk_cell K8.out 2).trans rfl); (try have x8_3 : wd.cell? ⟨g8, 3, none⟩ = some (.int .i64 s.cyc) := (blk_cell K8.out 3).trans rfl); (try have x8_4 : wd.cell? ⟨g8, 4, none⟩ = some (.int .u8 s.op) := (blk_cell K8.out 4).trans rfl); (try have x18_0 : wd.cell? ⟨g18, 0, none⟩ = some (.slice AC2 s.cells.length eC2) := (blk_cell K18.out 0).trans rfl); (try have x18_1 : wd.cell? ⟨g18, 1, none⟩ = some (.slice AO2 s.outs.length eO2) := (blk_cell K18.out 1).trans rfl); (try have x18_2 : wd.cell? ⟨g18, 2, none⟩ = some (.slice AR2 s.reads.length eR2) := (blk_cell K18.out 2).trans rfl); (try have x18_3 : wd.cell? ⟨g18, 3, none⟩ = some (.int .i64 s.cyc) := (blk_cell K18.out 3).trans rfl); (try have x18_4 : wd.cell? ⟨g18, 4, none⟩ = some (.int .u8 s.op) := (blk_cell K18.out 4).trans rfl); clear hb) | (go_at_call 30; (with_reducible refine at_args #[.slice AO2 s.outs.length eO2, .slice AO1 s.outs.length eO1] ?_); (with_reducible refine (perilunelaw05_cells.calls _ _ _ s.outs _ _ s.outs true _ (Kd.R_reads' HO2.out).2.2 (Kd.R_reads' HO2.out).2.1 (Kd.R_reads' HO.out).2.2 (Kd.R_reads' HO.out).2.1 HKO.out).mono ?_); rintro e wd ⟨rfl, hd⟩; have hb := drawn_below hd; clear hd; (try replace HC := Aside0.mk (Kd.R_below HC.out hb)); (try replace HO := Aside0.mk (Kd.R_below HO.out hb)); (try replace HC2 := Aside0.mk (Kd.R_below HC2.out hb)); (try replace HO2 := Aside0.mk (Kd.R_below HO2.out hb)); (try replace K3 := kbb_ K3 hb); (try replace K4 := kbb_ K4 hb); (try replace K7 := kbb_ K7 hb); (try replace K8 := kbb_ K8 hb); (try replace K12 := kbb_ K12 hb); (try replace K17 := kbb_ K17 hb); (try replace K18 := kbb_ K18 hb); replace HB := hbs_ HB hb; (try have x8_0 : wd.cell? ⟨g8, 0, none⟩ = some (.slice AC1 s.cells.length eC1) := (blk_cell K8.out 0).trans rfl); (try have x8_1 : wd.cell? ⟨g8, 1, none⟩ = some (.slice AO1 s.outs.length eO1) := (blk_cell K8.out 1).trans rfl); (try have x8_2 : wd.cell? ⟨g8, 2, none⟩ = some (.slice AR1 s.reads.length eR1) := (blk_cell K8.out 2).trans rfl); (try have x8_3 : wd.cell? ⟨g8, 3, none⟩ = some (.int .i64 s.cyc) := (blk_cell K8.out 3).trans rfl); (try have x8_4 : wd.cell? ⟨g8, 4, none⟩ = some (.int .u8 s.op) := (blk_cell K8.out 4).trans rfl); (try have x18_0 : wd.cell? ⟨g18, 0, none⟩ = some (.slice AC2 s.cells.length eC2) := (blk_cell K18.out 0).trans rfl); (try have x18_1 : wd.cell? ⟨g18, 1, none⟩ = some (.slice AO2 s.outs.length eO2) := (blk_cell K18.out 1).trans rfl); (try have x18_2 : wd.cell? ⟨g18, 2, none⟩ = some (.slice AR2 s.reads.length eR2) := (blk_cell K18.out 2).trans rfl); (try have x18_3 : wd.cell? ⟨g18, 3, none⟩ = some (.int .i64 s.cyc) := (blk_cell K18.out 3).trans rfl); (try have x18_4 : wd.cell? ⟨g18, 4, none⟩ = some (.int .u8 s.op) := (blk_cell K18.out 4).trans rfl); clear hb) | (go_at_call 20; (with_reducible refine at_args #[] ?_); (with_reducible refine (works_c _).mono ?_); rintro e wc ⟨rfl, hb⟩; (try replace HC := Aside0.mk (Kd.R_below HC.out hb)); (try replace HO := Aside0.mk (Kd.R_below HO.out hb)); (try replace HC2 := Aside0.mk (Kd.R_below HC2.out hb)); (try replace HO2 := Aside0.mk (Kd.R_below HO2.out hb)); (try replace K3 := kbb_ K3 hb); (try replace K4 := kbb_ K4 hb); (try replace K7 := kbb_ K7 hb); (try replace K8 := kbb_ K8 hb); (try replace K12 := kbb_ K12 hb); (try replace K17 := kbb_ K17 hb); (try replace K18 := kbb_ K18 hb); replace HB := hbs_ HB hb; clear hb))
                go_ret
                exact ⟨rfl, HB.out⟩
theorem local_law (z0 : S25) (z1 : S28) (A0 : Option Addr) (c0 : Nat) (A1 : Option Addr) (c1 : Nat) (A2 : Option Addr) (c2 : Nat) (y : Int) (w : World) (b0 : RgW z0) (l0 : z1.f0.length ≤ c0) (C0 : Kd.C (Kd.int .u16) w A0 z1.f0.length z1.f0) (l1 : z1.f1.length ≤ c1) (C1 : Kd.C (Kd.int .u16) w A1 z1.f1.length z1.f1) (l2 : z1.f2.length ≤ c2) (C2 : Kd.C (Kd.int .u16) w A2 z1.f2.length z1.f2) (b1 : VwW z1) (wy : (Lit.int .u16 y).wf = true) :
 Calls Tryz.prog 8 #[.agg #[.int .u16 z0.f0, .int .u16 z0.f1, .int .u16 z0.f2, .int .i64 z0.f3, .int .i64 z0.f4, .int .i64 z0.f5, .int .i64 z0.f6, .bool z0.f7, .int .u16 z0.f8, .bool z0.f9, .int .u16 z0.f10, .bool z0.f11, .bool z0.f12], .agg #[.slice A0 z1.f0.length c0, .slice A1 z1.f1.length c1, .slice A2 z1.f2.length c2], .int .u16 y] w fun e w' => e = .returned (.bool true) ∧ Below w.heap.size w w' := by
 obtain ⟨iw, hi⟩ := Lit.info_some infoWord6
 obtain ⟨j0, m0, hj0, p0, r0, s0, t0, em0, u0, D0⟩ := Lit.cut_any (Kd.int .u16) 27 24 Tryz.underlying27 hi A0 c0 z1.f0 l0 2048 (by decide) w C0
 obtain ⟨j1, m1, hj1, p1, r1, s1, t1, em1, u1, D1⟩ := Lit.cut_any (Kd.int .u16) 27 24 Tryz.underlying27 hi A1 c1 z1.f1 l1 36864 (by decide) w C1
 obtain ⟨j2, m2, hj2, p2, r2, s2, t2, em2, u2, D2⟩ := Lit.cut_any (Kd.int .u16) 27 24 Tryz.underlying27 hi A2 c2 z1.f2 l2 512 (by decide) w C2
 have HV : VwAt w A0 A1 A2 ⟨m0, m1, m2⟩ := ⟨D0, D1, D2, by rw [em0]; exact vw_b b1.1 _, by rw [em1]; exact vw_b b1.2.1 _, by rw [em2]; exact vw_b b1.2.2 _⟩
 have y := w16 wy
 by_cases he : sErr (rgOf z0) ⟨m0, m1, m2⟩ = 0
 · exact local_ok (rgOf z0) (kinds_w b0) m0 m1 m2 _ y.1 y.2 A0 A1 A2 _ _ _ _ _ _ _ _ _ j0 j1 j2 w ⟨HV⟩ rfl rfl rfl t0 t1 t2 (by omega) (by omega) (by omega) hj0 p0 r0 u0 hj1 p1 r1 u1 hj2 p2 r2 u2 he
 · exact local_er (rgOf z0) (kinds_w b0) m0 m1 m2 _ y.1 y.2 A0 A1 A2 _ _ _ _ _ _ _ _ _ j0 j1 j2 w ⟨HV⟩ rfl rfl rfl t0 t1 t2 (by omega) (by omega) (by omega) hj0 p0 r0 u0 hj1 p1 r1 u1 hj2 p2 r2 u2 he
end Go.Proofs.YthfobpkdloejfaaGreat.Cpu
end
