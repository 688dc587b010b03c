/- Chapter 5: a part of its proof (cut by program out of CpuS); no condition. -/
import Derived.Test.YthfobpkdloejfaaGreatIr21
import Derived.Test.YthfobpkdloejfaaGreatIr31
import Derived.Test.YthfobpkdloejfaaGreatIr32
set_option linter.unusedVariables false
set_option linter.unusedSimpArgs false
set_option linter.unusedSectionVars false
set_option maxRecDepth 100000
set_option maxHeartbeats 8000000
section
namespace Go.Proofs.YthfobpkdloejfaaGreat.Cpu
open Go.RowKit Go.Proofs.YthfobpkdloejfaaGreat.PAll Go.Proofs.YthfobpkdloejfaaGreat.One Go.Proofs.YthfobpkdloejfaaGreat.Mem Go.Proofs.YthfobpkdloejfaaGreat.Row Go.Proofs.YthfobpkdloejfaaGreatW.PrintWords Go.Proofs.YthfobpkdloejfaaGreatW.PrintLast Go.Proofs.YthfobpkdloejfaaGreatW.PrintMore Go.Proofs.YthfobpkdloejfaaGreat.Plain
open Go.Maps Go.WideMaps
theorem run_lookup_ {P : Program} {o : Oper} {a : Act} {W : World} {t : TypeId} {m x : Operand} (ho : o.op = .lookup t m x true) {b : Nat} {key u : Value} (hm : a.eval m = .map (some b)) (hx : a.eval x = key) (hrun : (Instr.lookup t (.map (some b)) key true).run P W = .ok u W) : (execOp a.eval o).run P W = .ok (.value u) W := by
 unfold execOp
 simp [ho, hm, hx, hrun, Result.andThen]
theorem look_tab {W : World} {b p g : Nat} (h : W.ownsMap Tryz.prog 9 heldR b 38 (Dt p g)) (i : Int) (i0 : 1 ≤ i) (i1 : i ≤ 39) : ∃ u, (Instr.lookup 99 (.map (some b)) (.string (entOf i).1) true).run Tryz.prog W = .ok (.tuple #[u, .bool (decide (i ≠ 27))]) W ∧ (i ≠ 27 → u = fval i p g) := by
 obtain ⟨u, ps, hr, hu⟩ := h.look_ok law9 Tryz.underlying99 (zeroF W) (zd := .held .nilFunc) (zp := []) rfl (key9 (entOf i).1 (ent_size i i0 i1))
 refine ⟨u, ?_, fun hn => ?_⟩
 · rw [Dt_has p g i i0 i1] at hr; exact hr
 · rw [Dt_at p g i i0 i1 hn] at hu
   unfold heldR at hu
   injection hu with hu
   injection hu with h1 h2
   injection h1
theorem call_fval {ops : Array Oper} {rest : List Oper} {o : Oper} {a : Act} {W : World} {Q : Exit → Act → World → Prop} (hgd : o.guard = none) (x : Operand) (ho : o.op = .call { callee := .value x, args := #[], argTypes := #[] }) (i : Int) (p g : Nat) (i0 : 1 ≤ i) (i1 : i ≤ 39) (ni : i ≠ 27) (hx : a.eval x = fval i p g)
 (h : Calls Tryz.prog (fnum i) (fargs i p g) W fun e w' => ∃ u, e = .returned u ∧ wpList Tryz.prog ops Q rest (a.put o.dst u) w') : wpList Tryz.prog ops Q (o :: rest) a W := by
 refine wpList_plain hgd fun K hK => ?_
 have he := enter_c i i0 i1 ni (fargs i p g) W
 have e : (execOp a.eval o).run Tryz.prog W = .ok (.enter (fnum i) (fargs i p g)) W := by
  unfold execOp
  unfold fval at hx
  unfold fargs at he ⊢
  cases hm : meth i
  · rw [hm] at hx he
    simp only [Bool.false_eq_true, if_false] at hx he ⊢
    simp [ho, resolve, Deferred.ofValue, invoke, hx, he]
  · rw [hm] at hx he
    simp only [if_true] at hx he ⊢
    simp [ho, resolve, Deferred.ofValue, invoke, hx, he]
 unfold Oper.wp
 rw [e]
 refine h.mono ?_
 rintro e w' ⟨u, rfl, hw⟩
 exact hK _ _ hw
abbrev aZD : Array Value := #[.slice none 0 0, .slice none 0 0, .slice none 0 0, .int .i64 0, .int .u8 0]
abbrev aPC (r : Rg) (v : Vw) (Al : Option Addr) (cl : Nat) (A0 A1 A2 : Option Addr) (c0 c1 c2 : Nat) : Array Value := #[.int .u16 r.a, .int .u16 r.l, .int .u16 r.q, .int .i64 ((r.z + 1) % 4096), .int .i64 r.eb, .int .i64 r.fb, .int .i64 r.su, .bool false, .int .u16 0, .bool false, .int .u16 0, .bool r.inh, .bool r.srv, .slice none 0 0, .slice none 0 0, .slice Al (fLst r v).length cl, .int .i64 (Isa.opN (fC r v)).2.2.2.2.2.1, .int .u8 (fC r v), .slice A0 v.e.length c0, .slice A1 v.f.length c1, .slice A2 v.c.length c2, .int .i64 (fK r v), .int .u8 0, .int .i64 0]
abbrev aPS (r : Rg) (v : Vw) (Al : Option Addr) (cl : Nat) (A0 A1 A2 : Option Addr) (c0 c1 c2 : Nat) : Array Value := #[.int .u16 r.a, .int .u16 r.l, .int .u16 r.q, .int .i64 ((r.z + 1) % 4096), .int .i64 r.eb, .int .i64 r.fb, .int .i64 r.su, .bool false, .int .u16 0, .bool false, .int .u16 0, .bool r.inh, .bool r.srv, .slice none 0 0, .slice none 0 0, .slice Al (fLst r v).length cl, .int .i64 (Isa.opN (fC r v)).2.2.2.2.2.1, .int .u8 (fC r v), .slice A0 v.e.length c0, .slice A1 v.f.length c1, .slice A2 v.c.length c2, .int .i64 (fK r v), .int .u8 (locN (nxR r) (fK r v)).1.f0, .int .i64 (locN (nxR r) (fK r v)).1.f1]
abbrev aSF (sf : St) : Array Value := #[.int .u16 sf.r.a, .int .u16 sf.r.l, .int .u16 sf.r.q, .int .i64 sf.r.z, .int .i64 sf.r.eb, .int .i64 sf.r.fb, .int .i64 sf.r.su, .bool sf.r.ext, .int .u16 sf.r.idx, .bool sf.r.held, .int .u16 sf.r.b, .bool sf.r.inh, .bool sf.r.srv]
section
variable {r : Rg} {A0 A1 A2 : Option Addr} {c0 c1 c2 : Nat} {v : Vw}
theorem step_e1 (w : World) (hv : VwAt w A0 A1 A2 v) (hc0 : v.e.length ≤ c0) (hc1 : v.f.length ≤ c1) (hc2 : v.c.length ≤ c2) (hk : r.Kinds) (he : fErr r v ≠ 0) : Calls Tryz.prog 21 #[.agg (aRG r), .agg (aVB v A0 A1 A2 c0 c1 c2)] w fun e w' => e = .returned (.tuple #[.agg (aZR), .agg (aZD), .int .i64 (sErr r v)]) ∧ Below w.heap.size w w' := by
 have HB := Aside0.mk (Below.refl w.heap.size w)
 have HV := Aside0.mk hv
 have HK := Aside0.mk hk
 clear hv hk
 have hu0 := Tryz.underlying26
 have hu1 := Tryz.underlying29
 have hu2 := Tryz.underlying41
 have hu3 := Tryz.underlying48
 have hu4 := Tryz.underlying97
 have hu5 := Tryz.underlying64
 have FE := Aside0.mk he
 have es : sErr r v = fErr r v := by unfold sErr; rw [if_pos he]
 rw [es]
 have y0 : (fErr r v != 0) = true := by simpa using he
 clear es he
 go_enter Tryz.func21, Tryz.ntmps21
 go_wp2_with (first | (refine boxq_ 2 (aRG r) 26 ?_; intro g2 hg wb K hb; (try have NE2_2 := nkb_ K2 hg); (try have NE3_2 := nkb_ K3 hg); (try have NE4_2 := nkb_ K4 hg); (try have NE5_2 := nkb_ K5 hg); have L2 := lkb_ HB hg; (try replace K2 := kbb_ K2 hb); (try replace K3 := kbb_ K3 hb); (try replace K4 := kbb_ K4 hb); (try replace K5 := kbb_ K5 hb); replace HB := hbs_ HB hb; have K2 := Aside0.mk K; clear K hb hg) | (refine boxq_ 3 (aVB v A0 A1 A2 c0 c1 c2) 29 ?_; intro g3 hg wb K hb; (try have NE2_3 := nkb_ K2 hg); (try have NE3_3 := nkb_ K3 hg); (try have NE4_3 := nkb_ K4 hg); (try have NE5_3 := nkb_ K5 hg); have L3 := lkb_ HB hg; (try replace K2 := kbb_ K2 hb); (try replace K3 := kbb_ K3 hb); (try replace K4 := kbb_ K4 hb); (try replace K5 := kbb_ K5 hb); replace HB := hbs_ HB hb; have K3 := Aside0.mk K; clear K hb hg) | (refine boxq_ 4 (aZR) 26 ?_; intro g4 hg wb K hb; (try have NE2_4 := nkb_ K2 hg); (try have NE3_4 := nkb_ K3 hg); (try have NE4_4 := nkb_ K4 hg); (try have NE5_4 := nkb_ K5 hg); have L4 := lkb_ HB hg; (try replace K2 := kbb_ K2 hb); (try replace K3 := kbb_ K3 hb); (try replace K4 := kbb_ K4 hb); (try replace K5 := kbb_ K5 hb); replace HB := hbs_ HB hb; have K4 := Aside0.mk K; clear K hb hg) | (refine boxq_ 5 (aZD) 48 ?_; intro g5 hg w1 K hb; (try have NE2_5 := nkb_ K2 hg); (try have NE3_5 := nkb_ K3 hg); (try have NE4_5 := nkb_ K4 hg); (try have NE5_5 := nkb_ K5 hg); have L5 := lkb_ HB hg; (try replace K2 := kbb_ K2 hb); (try replace K3 := kbb_ K3 hb); (try replace K4 := kbb_ K4 hb); (try replace K5 := kbb_ K5 hb); replace HB := hbs_ HB hb; have K5 := Aside0.mk K; clear K hb hg) | (refine load_row_ rfl 26 _ rfl g2 rfl #[.int .u16 r.a, .int .u16 r.l, .int .u16 r.q, .int .i64 r.z, .int .i64 r.eb, .int .i64 r.fb, .int .i64 r.su, .bool r.ext, .int .u16 r.idx, .bool r.held, .int .u16 r.b, .bool r.inh, .bool r.srv] _ K2.out _ Tryz.underlying26 rfl (by kernel_rfl) ?_) | (refine load_row_ rfl 29 _ rfl g3 rfl #[.slice A0 v.e.length c0, .slice A1 v.f.length c1, .slice A2 v.c.length c2] _ K3.out _ Tryz.underlying29 rfl (by kernel_rfl) ?_) | (go_at_call 18; (with_reducible refine at_args #[.agg (aRG r), .agg (aVB v A0 A1 A2 c0 c1 c2)] ?_); (with_reducible refine (fetch_e (r := r) (v := v) _ (HV.out.below HB.out) hc0 hc1 hc2 HK.out FE.out).mono ?_); rintro e wc ⟨rfl, hb⟩; (try replace K2 := kbb_ K2 hb); (try replace K3 := kbb_ K3 hb); (try replace K4 := kbb_ K4 hb); (try replace K5 := kbb_ K5 hb); (try replace K7 := kbb_ K7 hb); (try replace K9 := kbb_ K9 hb); (try replace K39 := kbb_ K39 hb); replace HB := hbs_ HB hb; clear hb) | (refine boxq_ 7 (aZO) 41 ?_; intro g7 hg wb K hb; (try have NE2_7 := nkb_ K2 hg); (try have NE3_7 := nkb_ K3 hg); (try have NE4_7 := nkb_ K4 hg); (try have NE5_7 := nkb_ K5 hg); (try have NE7_7 := nkb_ K7 hg); (try have NE9_7 := nkb_ K9 hg); (try have NE39_7 := nkb_ K39 hg); have L7 := lkb_ HB hg; (try replace K2 := kbb_ K2 hb); (try replace K3 := kbb_ K3 hb); (try replace K4 := kbb_ K4 hb); (try replace K5 := kbb_ K5 hb); (try replace K7 := kbb_ K7 hb); (try replace K9 := kbb_ K9 hb); (try replace K39 := kbb_ K39 hb); replace HB := hbs_ HB hb; have K7 := Aside0.mk K; clear K hb hg) | (refine boxq_ 9 (aZR) 26 ?_; intro g9 hg wb K hb; (try have NE2_9 := nkb_ K2 hg); (try have NE3_9 := nkb_ K3 hg); (try have NE4_9 := nkb_ K4 hg); (try have NE5_9 := nkb_ K5 hg); (try have NE7_9 := nkb_ K7 hg); (try have NE9_9 := nkb_ K9 hg); (try have NE39_9 := nkb_ K39 hg); have L9 := lkb_ HB hg; (try replace K2 := kbb_ K2 hb); (try replace K3 := kbb_ K3 hb); (try replace K4 := kbb_ K4 hb); (try replace K5 := kbb_ K5 hb); (try replace K7 := kbb_ K7 hb); (try replace K9 := kbb_ K9 hb); (try replace K39 := kbb_ K39 hb); replace HB := hbs_ HB hb; have K9 := Aside0.mk K; clear K hb hg) | (refine strq_ 41 7 19 g7 (aZO) K7 ?_; intro ws hk hfar hbel hkp; replace HB := Aside0.mk (hbel _ _ HB.out L7.out); (try replace K2 := hfr_ hfar K2 (by first | exact NE2_7.out | exact NE7_2.out.symm)); (try replace K3 := hfr_ hfar K3 (by first | exact NE3_7.out | exact NE7_3.out.symm)); (try replace K4 := hfr_ hfar K4 (by first | exact NE4_7.out | exact NE7_4.out.symm)); (try replace K5 := hfr_ hfar K5 (by first | exact NE5_7.out | exact NE7_5.out.symm)); (try replace K7 := hfr_ hfar K7 (by first | exact NE7_7.out | exact NE7_7.out.symm)); (try replace K9 := hfr_ hfar K9 (by first | exact NE9_7.out | exact NE7_9.out.symm)); (try replace K39 := hfr_ hfar K39 (by first | exact NE39_7.out | exact NE7_39.out.symm)); replace K7 := Aside0.mk hk; clear hk hfar hbel hkp) | (refine strq_ 26 9 21 g9 (aZR) K9 ?_; intro ws hk hfar hbel hkp; replace HB := Aside0.mk (hbel _ _ HB.out L9.out); (try replace K2 := hfr_ hfar K2 (by first | exact NE2_9.out | exact NE9_2.out.symm)); (try replace K3 := hfr_ hfar K3 (by first | exact NE3_9.out | exact NE9_3.out.symm)); (try replace K4 := hfr_ hfar K4 (by first | exact NE4_9.out | exact NE9_4.out.symm)); (try replace K5 := hfr_ hfar K5 (by first | exact NE5_9.out | exact NE9_5.out.symm)); (try replace K7 := hfr_ hfar K7 (by first | exact NE7_9.out | exact NE9_7.out.symm)); (try replace K9 := hfr_ hfar K9 (by first | exact NE9_9.out | exact NE9_9.out.symm)); (try replace K39 := hfr_ hfar K39 (by first | exact NE39_9.out | exact NE9_39.out.symm)); replace K9 := Aside0.mk hk; clear hk hfar hbel hkp) | (refine strq_ 26 4 26 g4 (aZR) K4 ?_; intro ws hk hfar hbel hkp; replace HB := Aside0.mk (hbel _ _ HB.out L4.out); (try replace K2 := hfr_ hfar K2 (by first | exact NE2_4.out | exact NE4_2.out.symm)); (try replace K3 := hfr_ hfar K3 (by first | exact NE3_4.out | exact NE4_3.out.symm)); (try replace K4 := hfr_ hfar K4 (by first | exact NE4_4.out | exact NE4_4.out.symm)); (try replace K5 := hfr_ hfar K5 (by first | exact NE5_4.out | exact NE4_5.out.symm)); (try replace K7 := hfr_ hfar K7 (by first | exact NE7_4.out | exact NE4_7.out.symm)); (try replace K9 := hfr_ hfar K9 (by first | exact NE9_4.out | exact NE4_9.out.symm)); (try replace K39 := hfr_ hfar K39 (by first | exact NE39_4.out | exact NE4_39.out.symm)); replace K4 := Aside0.mk hk; clear hk hfar hbel hkp) | (refine strq_ 48 5 27 g5 (aZD) K5 ?_; intro ws hk hfar hbel hkp; replace HB := Aside0.mk (hbel _ _ HB.out L5.out); (try replace K2 := hfr_ hfar K2 (by first | exact NE2_5.out | exact NE5_2.out.symm)); (try replace K3 := hfr_ hfar K3 (by first | exact NE3_5.out | exact NE5_3.out.symm)); (try replace K4 := hfr_ hfar K4 (by first | exact NE4_5.out | exact NE5_4.out.symm)); (try replace K5 := hfr_ hfar K5 (by first | exact NE5_5.out | exact NE5_5.out.symm)); (try replace K7 := hfr_ hfar K7 (by first | exact NE7_5.out | exact NE5_7.out.symm)); (try replace K9 := hfr_ hfar K9 (by first | exact NE9_5.out | exact NE5_9.out.symm)); (try replace K39 := hfr_ hfar K39 (by first | exact NE39_5.out | exact NE5_39.out.symm)); replace K5 := Aside0.mk hk; clear hk hfar hbel hkp) | ((with_reducible refine gate_dst (N := 26) rfl ?_); refine Kd.event_run (v := .agg (aZR)) (w1 := _) rfl ?hr2 ?_; (case hr2 => kernel_rfl)) | ((with_reducible refine gate_dst (N := 27) rfl ?_); refine Kd.event_run (v := .agg (aZD)) (w1 := _) rfl ?hr2 ?_; (case hr2 => kernel_rfl)))
 refine bodyPost_ret (results_list (rs := [.cell 4 26, .cell 5 48, .tmp 6]) rfl (by simp) (.cell g4 26 (aZR) (0, 0) _ rfl K4.out Tryz.underlying26 rfl (by kernel_rfl) (.cell g5 48 (aZD) (0, 0) _ rfl K5.out Tryz.underlying48 rfl (by kernel_rfl) (.tmp .nil)))) rfl ?_
 exact ⟨rfl, HB.out⟩
theorem step_AB (w : World) (hv : VwAt w A0 A1 A2 v) (hc0 : v.e.length ≤ c0) (hc1 : v.f.length ≤ c1) (hc2 : v.c.length ≤ c2) (hk : r.Kinds) (he : sErr r v = 0) (hx : fC r v ≠ 27 → ExecOk (fC r v)) (hs : spotted (fC r v) = true) (n27 : fC r v ≠ 27) (hk1 : ((Isa.opN (fC r v)).2.2.2.1 == 1) = true ∨ (((Isa.opN (fC r v)).2.2.2.1 == 1) = false ∧ ((Isa.opN (fC r v)).2.2.2.1 == 3) = true ∧ ((Isa.opN (fC r v)).2.1.toList == ([84, 67] : List UInt8)) = false)) : Calls Tryz.prog 21 #[.agg (aRG r), .agg (aVB v A0 A1 A2 c0 c1 c2)] w fun e w' => ∃ vC vO vR : Value, e = .returned (.tuple #[.agg #[.int .u16 (stepN r v).r.a, .int .u16 (stepN r v).r.l, .int .u16 (stepN r v).r.q, .int .i64 (stepN r v).r.z, .int .i64 (stepN r v).r.eb, .int .i64 (stepN r v).r.fb, .int .i64 (stepN r v).r.su, .bool (stepN r v).r.ext, .int .u16 (stepN r v).r.idx, .bool (stepN r v).r.held, .int .u16 (stepN r v).r.b, .bool (stepN r v).r.inh, .bool (stepN r v).r.srv], .agg #[vC, vO, vR, .int .i64 (stepN r v).cyc, .int .u8 (stepN r v).op], .int .i64 0]) ∧ Kd.R k61 61 w' w.heap.size (fun k => some k ≠ vO.ownBlock) vC (stepN r v).cells ∧ Kd.R k61 61 w' w.heap.size (fun k => some k ≠ vC.ownBlock) vO (stepN r v).outs ∧ Kd.R k64 64 w' w.heap.size (fun _ => True) vR (stepN r v).reads ∧ Below w.heap.size w w' := by
 have EX := Aside0.mk hx
 clear hx
 have he0 := sErr_f he
 have hm := fErr_may he0
 have ok := nx_ok (Rg.Ok.of_may hk hm)
 have y0 : (0 : Int) = 0 := rfl
 clear y0
 have FE := Aside0.mk he0
 have CB := Aside0.mk (fC_b r v)
 have KB := Aside0.mk (fK_b r v)
 have OK := Aside0.mk ok
 have LC : Aside0 (∀ w, Calls Tryz.prog 41 #[.agg (aNX r), .int .i64 (fK r v)] w fun e w' => e = .returned (.tuple #[.agg #[.int .u8 (locN (nxR r) (fK r v)).1.f0, .int .i64 (locN (nxR r) (fK r v)).1.f1], .int .i64 (locN (nxR r) (fK r v)).2]) ∧ Below w.heap.size w w') := ⟨fun w => locate_c (nxR r) (fK r v) w⟩
 have le : (locN (nxR r) (fK r v)).2 = 0 := by unfold sErr at he; rw [if_neg (by omega), if_pos hs] at he; exact he
 have y9 : ((locN (nxR r) (fK r v)).2 != 0) = false := by simpa using le
 have S0 : Aside0 (0 ≤ (st1 r v).sp.f1 ∧ (st1 r v).sp.f1 < 40000) := ⟨by unfold st1; rw [if_pos hs]; exact loc_b2 ok (fK r v) le⟩
 have SPO := Aside0.mk hs
 have N27 := Aside0.mk n27
 have C27 : Aside0 (decide (fC r v ≠ 27) = true) := ⟨decide_eq_true n27⟩
 clear le hs n27
 have HB := Aside0.mk (Below.refl w.heap.size w)
 have HV := Aside0.mk hv
 have HK := Aside0.mk hk
 clear hv hk he hm ok he0
 have hu0 := Tryz.underlying26
 have hu1 := Tryz.underlying29
 have hu2 := Tryz.underlying41
 have hu3 := Tryz.underlying48
 have hu4 := Tryz.underlying97
 have hu5 := Tryz.underlying64
 rcases hk1 with yk1 | ⟨yk1, yk3, yn⟩
 all_goals
  go_enter Tryz.func21, Tryz.ntmps21
  go_upto_region 1 with (first | (refine boxq_ 2 (aRG r) 26 ?_; intro g2 hg wb K hb; (try have NE2_2 := nkb_ K2 hg); (try have NE3_2 := nkb_ K3 hg); (try have NE4_2 := nkb_ K4 hg); (try have NE5_2 := nkb_ K5 hg); have L2 := lkb_ HB hg; (try replace K2 := kbb_ K2 hb); (try replace K3 := kbb_ K3 hb); (try replace K4 := kbb_ K4 hb); (try replace K5 := kbb_ K5 hb); replace HB := hbs_ HB hb; have K2 := Aside0.mk K; clear K hb hg) | (refine boxq_ 3 (aVB v A0 A1 A2 c0 c1 c2) 29 ?_; intro g3 hg wb K hb; (try have NE2_3 := nkb_ K2 hg); (try have NE3_3 := nkb_ K3 hg); (try have NE4_3 := nkb_ K4 hg); (try have NE5_3 := nkb_ K5 hg); have L3 := lkb_ HB hg; (try replace K2 := kbb_ K2 hb); (try replace K3 := kbb_ K3 hb); (try replace K4 := kbb_ K4 hb); (try replace K5 := kbb_ K5 hb); replace HB := hbs_ HB hb; have K3 := Aside0.mk K; clear K hb hg) | (refine boxq_ 4 (aZR) 26 ?_; intro g4 hg wb K hb; (try have NE2_4 := nkb_ K2 hg); (try have NE3_4 := nkb_ K3 hg); (try have NE4_4 := nkb_ K4 hg); (try have NE5_4 := nkb_ K5 hg); have L4 := lkb_ HB hg; (try replace K2 := kbb_ K2 hb); (try replace K3 := kbb_ K3 hb); (try replace K4 := kbb_ K4 hb); (try replace K5 := kbb_ K5 hb); replace HB := hbs_ HB hb; have K4 := Aside0.mk K; clear K hb hg) | (refine boxq_ 5 (aZD) 48 ?_; intro g5 hg w1 K hb; (try have NE2_5 := nkb_ K2 hg); (try have NE3_5 := nkb_ K3 hg); (try have NE4_5 := nkb_ K4 hg); (try have NE5_5 := nkb_ K5 hg); have L5 := lkb_ HB hg; (try replace K2 := kbb_ K2 hb); (try replace K3 := kbb_ K3 hb); (try replace K4 := kbb_ K4 hb); (try replace K5 := kbb_ K5 hb); replace HB := hbs_ HB hb; have K5 := Aside0.mk K; clear K hb hg))
  have HW := HB
  have M4 := K4
  have M5 := K5
  have M4b := Aside0.mk (blk_lt K4.out)
  have M5b := Aside0.mk (blk_lt K5.out)
  clear HB
  have HB := Aside0.mk (Below.refl w1.heap.size w1)
  go_upto_region 5 with (first | (go_at_call 18; (with_reducible refine at_args #[.agg (aRG r), .agg (aVB v A0 A1 A2 c0 c1 c2)] ?_); (with_reducible refine (fetch_c (r := r) (v := v) _ (HV.out.below HW.out) hc0 hc1 hc2 HK.out FE.out).mono ?_); rintro e wc ⟨vl, rfl, hL, hb⟩; obtain ⟨Al, cl, rfl⟩ := Kd.R_slice hL; have HL := Aside0.mk hL; clear hL; (try replace K3 := kbb_ K3 hb); (try replace K7 := kbb_ K7 hb); (try replace K9 := kbb_ K9 hb); (try replace K39 := kbb_ K39 hb); replace HB := hbs_ HB hb; clear hb) | (refine boxq_ 7 (aZO) 41 ?_; intro g7 hg wb K hb; (try have NE3_7 := nkb_ K3 hg); (try have NE7_7 := nkb_ K7 hg); (try have NE9_7 := nkb_ K9 hg); (try have NE39_7 := nkb_ K39 hg); have L7 := Aside0.mk (show w1.heap.size ≤ g7 from by rw [hg]; exact HB.out.size); (try replace HL := Aside0.mk (Kd.R_below HL.out hb)); (try replace K3 := kbb_ K3 hb); (try replace K7 := kbb_ K7 hb); (try replace K9 := kbb_ K9 hb); (try replace K39 := kbb_ K39 hb); replace HB := hbs_ HB hb; have K7 := Aside0.mk K; clear K hb hg) | (refine boxq_ 9 (aZR) 26 ?_; intro g9 hg wb K hb; (try have NE3_9 := nkb_ K3 hg); (try have NE7_9 := nkb_ K7 hg); (try have NE9_9 := nkb_ K9 hg); (try have NE39_9 := nkb_ K39 hg); have L9 := Aside0.mk (show w1.heap.size ≤ g9 from by rw [hg]; exact HB.out.size); (try replace HL := Aside0.mk (Kd.R_below HL.out hb)); (try replace K3 := kbb_ K3 hb); (try replace K7 := kbb_ K7 hb); (try replace K9 := kbb_ K9 hb); (try replace K39 := kbb_ K39 hb); replace HB := hbs_ HB hb; have K9 := Aside0.mk K; clear K hb hg) | (refine strq_ 41 7 19 g7 (aOC r v) K7 ?_; intro ws hk hfar hbel hkp; (try replace HL := Aside0.mk (R_kb HL.out K7.out (fun q hq => by rw [ekS q hq]; decide) hkp)); replace HB := Aside0.mk (hbel _ _ HB.out L7.out); (try replace K3 := hfr_ hfar K3 (by first | exact NE3_7.out | exact NE7_3.out.symm)); (try replace K7 := hfr_ hfar K7 (by first | exact NE7_7.out | exact NE7_7.out.symm)); (try replace K9 := hfr_ hfar K9 (by first | exact NE9_7.out | exact NE7_9.out.symm)); (try replace K39 := hfr_ hfar K39 (by first | exact NE39_7.out | exact NE7_39.out.symm)); replace K7 := Aside0.mk hk; clear hk hfar hbel hkp) | (refine strq_ 26 9 21 g9 (aNX r) K9 ?_; intro ws hk hfar hbel hkp; (try replace HL := Aside0.mk (R_kb HL.out K9.out (fun q hq => by rw [ekS q hq]; decide) hkp)); replace HB := Aside0.mk (hbel _ _ HB.out L9.out); (try replace K3 := hfr_ hfar K3 (by first | exact NE3_9.out | exact NE9_3.out.symm)); (try replace K7 := hfr_ hfar K7 (by first | exact NE7_9.out | exact NE9_7.out.symm)); (try replace K9 := hfr_ hfar K9 (by first | exact NE9_9.out | exact NE9_9.out.symm)); (try replace K39 := hfr_ hfar K39 (by first | exact NE39_9.out | exact NE9_39.out.symm)); replace K9 := Aside0.mk hk; clear hk hfar hbel hkp) | ((with_reducible refine gate_dst (N := 35) rfl ?_); refine Kd.event_run (v := .agg #[.slice none 0 0, .slice none 0 0, .slice Al (fLst r v).length cl, .int .i64 (Isa.opN (fC r v)).2.2.2.2.2.1, .int .u8 (fC r v)]) (w1 := _) rfl ?hr2 ?_; (case hr2 => kernel_rfl)) | ((with_reducible refine gate_dst (N := 38) rfl ?_); refine Kd.event_run (v := .agg (aPC r v Al cl A0 A1 A2 c0 c1 c2)) (w1 := _) rfl ?hr2 ?_; (case hr2 => kernel_rfl)) | (refine boxq_ 39 (aPC r v Al cl A0 A1 A2 c0 c1 c2) 97 ?_; intro g39 hg wb K hb; (try have NE3_39 := nkb_ K3 hg); (try have NE7_39 := nkb_ K7 hg); (try have NE9_39 := nkb_ K9 hg); (try have NE39_39 := nkb_ K39 hg); have L39 := Aside0.mk (show w1.heap.size ≤ g39 from by rw [hg]; exact HB.out.size); (try replace HL := Aside0.mk (Kd.R_below HL.out hb)); (try replace K3 := kbb_ K3 hb); (try replace K7 := kbb_ K7 hb); (try replace K9 := kbb_ K9 hb); (try replace K39 := kbb_ K39 hb); replace HB := hbs_ HB hb; have K39 := Aside0.mk K; clear K hb hg) | (refine load_row_ rfl 26 _ rfl g2 rfl #[.int .u16 r.a, .int .u16 r.l, .int .u16 r.q, .int .i64 r.z, .int .i64 r.eb, .int .i64 r.fb, .int .i64 r.su, .bool r.ext, .int .u16 r.idx, .bool r.held, .int .u16 r.b, .bool r.inh, .bool r.srv] _ K2.out _ Tryz.underlying26 rfl (by kernel_rfl) ?_) | (refine load_row_ rfl 29 _ rfl g3 rfl #[.slice A0 v.e.length c0, .slice A1 v.f.length c1, .slice A2 v.c.length c2] _ K3.out _ Tryz.underlying29 rfl (by kernel_rfl) ?_) | (refine load_row_ rfl 26 _ rfl g9 rfl #[.int .u16 r.a, .int .u16 r.l, .int .u16 r.q, .int .i64 ((r.z + 1) % 4096), .int .i64 r.eb, .int .i64 r.fb, .int .i64 r.su, .bool false, .int .u16 0, .bool false, .int .u16 0, .bool r.inh, .bool r.srv] _ K9.out _ Tryz.underlying26 rfl (by kernel_rfl) ?_) | (refine load_cell_ rfl 3 _ rfl g7 5 rfl (.int .i64 (Isa.opN (fC r v)).2.2.2.2.2.1) ((blk_cell K7.out 5).trans rfl) (fun _ => by kernel_rfl) ?_) | (refine load_cell_ rfl 38 _ rfl g7 0 rfl (.int .u8 (fC r v)) ((blk_cell K7.out 0).trans rfl) (fun _ => by kernel_rfl) ?_) | (refine load_cell_ rfl 39 _ rfl g7 3 rfl (.int .u8 (Isa.opN (fC r v)).2.2.2.1) ((blk_cell K7.out 3).trans rfl) (fun _ => by kernel_rfl) ?_) | (refine load_cell_ rfl 9 _ rfl g7 1 rfl (.string (Isa.opN (fC r v)).2.1) ((blk_cell K7.out 1).trans rfl) (fun _ => by kernel_rfl) ?_))
  have x7_1 : wb.cell? ⟨g7, 1, none⟩ = some (.string (Isa.opN (fC r v)).2.1) := (blk_cell K7.out 1).trans rfl
  have x7_3 : wb.cell? ⟨g7, 3, none⟩ = some (.int .u8 (Isa.opN (fC r v)).2.2.2.1) := (blk_cell K7.out 3).trans rfl
  go_upto_region 6 with (first | fail)
  clear x7_1 x7_3
  go_upto_region 7 with (first | (refine load_row_ rfl 26 _ rfl g9 rfl #[.int .u16 r.a, .int .u16 r.l, .int .u16 r.q, .int .i64 ((r.z + 1) % 4096), .int .i64 r.eb, .int .i64 r.fb, .int .i64 r.su, .bool false, .int .u16 0, .bool false, .int .u16 0, .bool r.inh, .bool r.srv] _ K9.out _ Tryz.underlying26 rfl (by kernel_rfl) ?_) | (go_at_call 41; (with_reducible refine at_args #[.agg (aNX r), .int .i64 (fK r v)] ?_); (with_reducible refine (LC.out _).mono ?_); rintro e wc ⟨rfl, hb⟩; (try replace HL := Aside0.mk (Kd.R_below HL.out hb)); (try replace K3 := kbb_ K3 hb); (try replace K7 := kbb_ K7 hb); (try replace K9 := kbb_ K9 hb); (try replace K39 := kbb_ K39 hb); replace HB := hbs_ HB hb; clear hb; have x22 : wc.cell? ⟨g39, 22, none⟩ = some (.int .u8 0) := (blk_cell K39.out 22).trans rfl; have x23 : wc.cell? ⟨g39, 23, none⟩ = some (.int .i64 0) := (blk_cell K39.out 23).trans rfl; have f39 := blk_frozen K39.out))
  have n7 := Aside0.mk (show (World.heap ((wc.setCell ⟨g39, 22, none⟩ (.int .u8 (locN (nxR r) (fK r v)).1.f0)).setCell ⟨g39, 23, none⟩ (.int .i64 (locN (nxR r) (fK r v)).1.f1)))[g7]? = _ from blk_far (blk_far K7.out NE7_39.out _) NE7_39.out _)
  have n39 := Aside0.mk (show (World.heap ((wc.setCell ⟨g39, 22, none⟩ (.int .u8 (locN (nxR r) (fK r v)).1.f0)).setCell ⟨g39, 23, none⟩ (.int .i64 (locN (nxR r) (fK r v)).1.f1)))[g39]? = some (.cells (aPS r v Al cl A0 A1 A2 c0 c1 c2) 97 (0, 0)) from blk_put (blk_put K39.out 22 _ rfl) 23 _ rfl)
  have nL := Aside0.mk (show Kd.R _ _ ((wc.setCell ⟨g39, 22, none⟩ (.int .u8 (locN (nxR r) (fK r v)).1.f0)).setCell ⟨g39, 23, none⟩ (.int .i64 (locN (nxR r) (fK r v)).1.f1)) _ _ _ _ from Kd.R_set (Kd.R_set HL.out K39.out (fun q hq => by rw [ekS q hq]; decide) 22 _) (blk_put K39.out 22 _ rfl) (fun q hq => by rw [ekS q hq]; decide) 23 _)
  have nB := Aside0.mk (show Below _ _ ((wc.setCell ⟨g39, 22, none⟩ (.int .u8 (locN (nxR r) (fK r v)).1.f0)).setCell ⟨g39, 23, none⟩ (.int .i64 (locN (nxR r) (fK r v)).1.f1)) from below_set (below_set HB.out L39.out) L39.out)
  clear HB HL K7 K39 K3 K9 x22 x23 f39
  have HB := nB
  have HL := nL
  have K7 := n7
  have K39 := n39
  clear nB nL n7 n39
  generalize ((wc.setCell ⟨g39, 22, none⟩ (.int .u8 (locN (nxR r) (fK r v)).1.f0)).setCell ⟨g39, 23, none⟩ (.int .i64 (locN (nxR r) (fK r v)).1.f1)) = w9 at HB HL K7 K39 ⊢
  go_upto_region 9 with (first | fail)
  refine start_ (n := 10) (S := fun w' => w'.cell? ⟨g7, 1, none⟩ = some (.string (Isa.opN (fC r v)).2.1)) (ds := []) #[false, false, false, false, false, false, false, false, false, false] (by kernel_rfl) rfl rfl ((blk_cell K7.out 1).trans rfl) (fun hHeld => ?_)
  replace K7 := Aside0.mk (blk_drew K7.out)
  replace K39 := Aside0.mk (blk_drew K39.out)
  (try replace HL := Aside0.mk (Kd.R_drew HL.out))
  replace HB := Aside0.mk (below_drew1 HB.out)
  generalize w9.drew = wd at K7 K39 HB hHeld HL ⊢
  refine pvq_ 0 (some 68) rfl rfl ?_
  refine pvq_ 2 (some 70) rfl rfl ?_
  refine tkq_ 3 (some 71) rfl rfl hHeld ?_
  refine onq_ 1 (some 69) rfl rfl (fun K hK => ?_)
  refine goq_ Tryz.func50 #[.pointer (some ⟨g39, 0, none⟩)] ?_
  with_reducible refine (table_c g39 _).mono ?_
  rintro e wt ⟨gx, bm, rfl, hM, lx, hX, hb⟩
  refine ⟨_, rfl, ?_⟩
  have NX := Aside0.mk (show gx ≠ g39 from by have := blk_lt K39.out; omega)
  have KX := Aside0.mk hX
  have HM := Aside0.mk hM
  clear hM hX lx
  replace K7 := kbb_ K7 hb
  replace K39 := kbb_ K39 hb
  (try replace HL := Aside0.mk (Kd.R_below HL.out hb))
  replace HB := hbs_ HB hb
  clear hb
  obtain ⟨u, hlook, hu⟩ := look_tab HM.out (fC r v) CB.out.1 CB.out.2
  replace hlook := Aside0.mk hlook
  replace hu := Aside0.mk hu
  rw [C27.out] at hlook
  refine hK.out _ _ ((blk_cell K7.out 1).trans rfl) (fun hHeld => ?_)
  clear hK K
  refine nmq_ (some 69) ?_
  refine onq_ 4 (some 72) rfl rfl (fun K hK => ?_)
  first | refine value_ (w1 := wt) (v := .tuple #[u, .bool true]) (by rfl) rfl (run_lookup_ rfl rfl rfl hlook.out) ?_ | refine value_ (w1 := wt) (v := .tuple #[u, .bool false]) (by rfl) rfl (run_lookup_ rfl rfl rfl hlook.out) ?_
  refine hK.out _ _ ((blk_cell K7.out 1).trans rfl) (fun hHeld => ?_)
  clear hK K
  refine nmq_ (some 72) ?_
  refine pvq_ 5 (some 67) rfl rfl ?_
  refine pvq_ 6 (some 73) rfl rfl ?_
  refine pvq_ 7 (some 74) rfl rfl ?_
  refine pvq_ 8 (some 13) rfl rfl ?_
  refine pvq_ 9 (some 14) rfl rfl ?_
  refine done_ (by kernel_rfl) ?_
  have E1 : st1 r v = { st0 r v with sp := (locN (nxR r) (fK r v)).1 } := by unfold st1; rw [if_pos SPO.out]
  have SB := st1_sz r v
  have HP : (⟨w1, g39, gx, A0, A1, A2, c0, c1, c2, v⟩ : Cx).P 1 (st1 r v) wt := by
   refine ⟨?_, ⟨HV.out.below HW.out, hc0, hc1, hc2⟩, SB⟩
   rw [E1]
   exact ⟨_, _, _, ⟨HB.out, L39.out, by decide, by decide, K39.out, fun c e => by cases e; exact ⟨KX.out, NX.out⟩, Kd.R_nil _ _ _ _ _, Kd.R_nil _ _ _ _ _, HL.out⟩⟩
  have HC := EX.out N27.out _ _ _ _ HP (by rw [st1_r]; exact OK.out) S0.out.1 S0.out.2 (by rw [st1_k]; exact KB.out.1) (by decide); have HCC := Aside0.mk HC; replace hu := Aside0.mk (hu.out N27.out); clear HC HP SB E1 HL K7 K39 KX NX HB HM hlook; go_upto_region 12 with (first | (refine call_fval rfl (.tmp 76) rfl (fC r v) g39 gx CB.out.1 CB.out.2 N27.out hu.out ?_; (with_reducible refine HCC.out.mono ?_); rintro e wf ⟨rfl, m, hP⟩; refine ⟨_, rfl, ?_⟩; have HPF := Aside0.mk hP; clear hP HCC)); replace HPF : Aside0 (∃ m, Cx.P ⟨w1, g39, gx, A0, A1, A2, c0, c1, c2, v⟩ m (stepN r v) wf) := ⟨m, HPF.out⟩
  obtain ⟨sf, hsf⟩ : ∃ x, stepN r v = x := ⟨_, rfl⟩
  rw [hsf] at HPF
  obtain ⟨m, HPM⟩ := HPF.out
  have HSF := Aside0.mk hsf
  clear hsf
  obtain ⟨vC, vO, vR, RF⟩ := HPM.run
  obtain ⟨AC, cC, rfl⟩ := Kd.R_slice RF.rc
  obtain ⟨AO, cO, rfl⟩ := Kd.R_slice RF.ro
  obtain ⟨AR, cR, rfl⟩ := Kd.R_slice RF.rr
  have HB := Aside0.mk (below_step HW.out RF.hb)
  have K39 := Aside0.mk (show wf.heap[g39]? = some (.cells #[.int .u16 sf.r.a, .int .u16 sf.r.l, .int .u16 sf.r.q, .int .i64 sf.r.z, .int .i64 sf.r.eb, .int .i64 sf.r.fb, .int .i64 sf.r.su, .bool sf.r.ext, .int .u16 sf.r.idx, .bool sf.r.held, .int .u16 sf.r.b, .bool sf.r.inh, .bool sf.r.srv, .slice AC sf.cells.length cC, .slice AO sf.outs.length cO, .slice AR sf.reads.length cR, .int .i64 sf.cyc, .int .u8 sf.op, .slice A0 v.e.length c0, .slice A1 v.f.length c1, .slice A2 v.c.length c2, .int .i64 sf.k, .int .u8 sf.sp.f0, .int .i64 sf.sp.f1] 97 (0, 0)) from RF.blk)
  have K4 := Aside0.mk (blk_below M4.out RF.hb)
  have K5 := Aside0.mk (blk_below M5.out RF.hb)
  have HC := Aside0.mk (Kd.R_lower RF.rc HW.out.size)
  have HO := Aside0.mk (Kd.R_lower RF.ro HW.out.size)
  have HR := Aside0.mk (Kd.R_lower RF.rr HW.out.size)
  have NE4_39 := Aside0.mk (show g4 ≠ g39 from by have := M4b.out; have := L39.out; omega)
  have NE5_39 := Aside0.mk (show g5 ≠ g39 from by have := M5b.out; have := L39.out; omega)
  clear RF HPM HPF M4 M5
  refine start_ (n := 11) (S := fun w' => w'.cell? ⟨g39, 0, none⟩ = some (.int .u16 sf.r.a) ∧ w'.cell? ⟨g39, 1, none⟩ = some (.int .u16 sf.r.l) ∧ w'.cell? ⟨g39, 2, none⟩ = some (.int .u16 sf.r.q) ∧ w'.cell? ⟨g39, 3, none⟩ = some (.int .i64 sf.r.z) ∧ w'.cell? ⟨g39, 4, none⟩ = some (.int .i64 sf.r.eb) ∧ w'.cell? ⟨g39, 5, none⟩ = some (.int .i64 sf.r.fb) ∧ w'.cell? ⟨g39, 6, none⟩ = some (.int .i64 sf.r.su) ∧ w'.cell? ⟨g39, 7, none⟩ = some (.bool sf.r.ext) ∧ w'.cell? ⟨g39, 8, none⟩ = some (.int .u16 sf.r.idx) ∧ w'.cell? ⟨g39, 9, none⟩ = some (.bool sf.r.held) ∧ w'.cell? ⟨g39, 10, none⟩ = some (.int .u16 sf.r.b) ∧ w'.cell? ⟨g39, 11, none⟩ = some (.bool sf.r.inh) ∧ w'.cell? ⟨g39, 12, none⟩ = some (.bool sf.r.srv) ∧ w'.cell? ⟨g39, 13, none⟩ = some (.slice AC sf.cells.length cC) ∧ w'.cell? ⟨g39, 14, none⟩ = some (.slice AO sf.outs.length cO) ∧ w'.cell? ⟨g39, 15, none⟩ = some (.slice AR sf.reads.length cR) ∧ w'.cell? ⟨g39, 16, none⟩ = some (.int .i64 sf.cyc) ∧ w'.cell? ⟨g39, 17, none⟩ = some (.int .u8 sf.op)) (ds := [9]) #[false, false, false, false, false, false, false, false, false, false, false] (by kernel_rfl) rfl rfl ⟨(blk_cell K39.out 0).trans rfl, (blk_cell K39.out 1).trans rfl, (blk_cell K39.out 2).trans rfl, (blk_cell K39.out 3).trans rfl, (blk_cell K39.out 4).trans rfl, (blk_cell K39.out 5).trans rfl, (blk_cell K39.out 6).trans rfl, (blk_cell K39.out 7).trans rfl, (blk_cell K39.out 8).trans rfl, (blk_cell K39.out 9).trans rfl, (blk_cell K39.out 10).trans rfl, (blk_cell K39.out 11).trans rfl, (blk_cell K39.out 12).trans rfl, (blk_cell K39.out 13).trans rfl, (blk_cell K39.out 14).trans rfl, (blk_cell K39.out 15).trans rfl, (blk_cell K39.out 16).trans rfl, (blk_cell K39.out 17).trans rfl⟩ (fun hHeld => ?_)
  replace K39 := Aside0.mk (blk_drew K39.out)
  replace K4 := Aside0.mk (blk_drew K4.out)
  replace K5 := Aside0.mk (blk_drew K5.out)
  (try replace HC := Aside0.mk (Kd.R_drew HC.out))
  (try replace HO := Aside0.mk (Kd.R_drew HO.out))
  (try replace HR := Aside0.mk (Kd.R_drew HR.out))
  replace HB := Aside0.mk (below_drew1 HB.out)
  generalize wf.drew = wd at K39 K4 K5 HB hHeld HC HO HR ⊢
  refine pvq_ 0 (some 78) rfl rfl ?_
  refine pvq_ 1 (some 79) rfl rfl ?_
  refine pvq_ 2 (some 80) rfl rfl ?_
  refine pvq_ 4 (some 82) rfl rfl ?_
  refine pvq_ 5 (some 83) rfl rfl ?_
  refine pvq_ 6 (some 84) rfl rfl ?_
  refine tkq_ 3 (some 81) rfl rfl hHeld ?_
  refine tkq_ 7 (some 85) rfl rfl hHeld ?_
  refine onq_ 8 none rfl rfl (fun K hK => ?_)
  refine skip_ (w1 := World.setRow wd g4 #[.int .u16 sf.r.a, .int .u16 sf.r.l, .int .u16 sf.r.q, .int .i64 sf.r.z, .int .i64 sf.r.eb, .int .i64 sf.r.fb, .int .i64 sf.r.su, .bool sf.r.ext, .int .u16 sf.r.idx, .bool sf.r.held, .int .u16 sf.r.b, .bool sf.r.inh, .bool sf.r.srv]) (by rfl) rfl ?_ ?_
  · refine run_store_row 26 (.tmp 4) (.tmp 81) ?_ g4 ?_ 26 _ #[.int .u16 sf.r.a, .int .u16 sf.r.l, .int .u16 sf.r.q, .int .i64 sf.r.z, .int .i64 sf.r.eb, .int .i64 sf.r.fb, .int .i64 sf.r.su, .bool sf.r.ext, .int .u16 sf.r.idx, .bool sf.r.held, .int .u16 sf.r.b, .bool sf.r.inh, .bool sf.r.srv] ?_ K4.out (by kernel_rfl) rfl (by kernel_rfl)
    · rfl
    · rfl
    · rfl
  (try replace HC := Aside0.mk (R_kb HC.out K4.out (fun q hq => by rw [ekC q hq]; decide) (keep_row _ g4 #[.int .u16 sf.r.a, .int .u16 sf.r.l, .int .u16 sf.r.q, .int .i64 sf.r.z, .int .i64 sf.r.eb, .int .i64 sf.r.fb, .int .i64 sf.r.su, .bool sf.r.ext, .int .u16 sf.r.idx, .bool sf.r.held, .int .u16 sf.r.b, .bool sf.r.inh, .bool sf.r.srv])))
  (try replace HO := Aside0.mk (R_kb HO.out K4.out (fun q hq => by rw [ekC q hq]; decide) (keep_row _ g4 #[.int .u16 sf.r.a, .int .u16 sf.r.l, .int .u16 sf.r.q, .int .i64 sf.r.z, .int .i64 sf.r.eb, .int .i64 sf.r.fb, .int .i64 sf.r.su, .bool sf.r.ext, .int .u16 sf.r.idx, .bool sf.r.held, .int .u16 sf.r.b, .bool sf.r.inh, .bool sf.r.srv])))
  (try replace HR := Aside0.mk (R_kb HR.out K4.out (fun q hq => by rw [ekS q hq]; decide) (keep_row _ g4 #[.int .u16 sf.r.a, .int .u16 sf.r.l, .int .u16 sf.r.q, .int .i64 sf.r.z, .int .i64 sf.r.eb, .int .i64 sf.r.fb, .int .i64 sf.r.su, .bool sf.r.ext, .int .u16 sf.r.idx, .bool sf.r.held, .int .u16 sf.r.b, .bool sf.r.inh, .bool sf.r.srv])))
  replace HB := Aside0.mk (below_setRow HB.out L4.out #[.int .u16 sf.r.a, .int .u16 sf.r.l, .int .u16 sf.r.q, .int .i64 sf.r.z, .int .i64 sf.r.eb, .int .i64 sf.r.fb, .int .i64 sf.r.su, .bool sf.r.ext, .int .u16 sf.r.idx, .bool sf.r.held, .int .u16 sf.r.b, .bool sf.r.inh, .bool sf.r.srv])
  replace K39 := Aside0.mk (blk_row_far K39.out (by first | exact NE39_4.out | exact NE4_39.out.symm) #[.int .u16 sf.r.a, .int .u16 sf.r.l, .int .u16 sf.r.q, .int .i64 sf.r.z, .int .i64 sf.r.eb, .int .i64 sf.r.fb, .int .i64 sf.r.su, .bool sf.r.ext, .int .u16 sf.r.idx, .bool sf.r.held, .int .u16 sf.r.b, .bool sf.r.inh, .bool sf.r.srv])
  replace K5 := Aside0.mk (blk_row_far K5.out (by first | exact NE5_4.out | exact NE4_5.out.symm) #[.int .u16 sf.r.a, .int .u16 sf.r.l, .int .u16 sf.r.q, .int .i64 sf.r.z, .int .i64 sf.r.eb, .int .i64 sf.r.fb, .int .i64 sf.r.su, .bool sf.r.ext, .int .u16 sf.r.idx, .bool sf.r.held, .int .u16 sf.r.b, .bool sf.r.inh, .bool sf.r.srv])
  replace K4 := Aside0.mk (blk_row K4.out #[.int .u16 sf.r.a, .int .u16 sf.r.l, .int .u16 sf.r.q, .int .i64 sf.r.z, .int .i64 sf.r.eb, .int .i64 sf.r.fb, .int .i64 sf.r.su, .bool sf.r.ext, .int .u16 sf.r.idx, .bool sf.r.held, .int .u16 sf.r.b, .bool sf.r.inh, .bool sf.r.srv])
  generalize World.setRow wd g4 #[.int .u16 sf.r.a, .int .u16 sf.r.l, .int .u16 sf.r.q, .int .i64 sf.r.z, .int .i64 sf.r.eb, .int .i64 sf.r.fb, .int .i64 sf.r.su, .bool sf.r.ext, .int .u16 sf.r.idx, .bool sf.r.held, .int .u16 sf.r.b, .bool sf.r.inh, .bool sf.r.srv] = wa at K39 K4 K5 HB HC HO HR ⊢
  refine hK.out _ _ ⟨(blk_cell K39.out 0).trans rfl, (blk_cell K39.out 1).trans rfl, (blk_cell K39.out 2).trans rfl, (blk_cell K39.out 3).trans rfl, (blk_cell K39.out 4).trans rfl, (blk_cell K39.out 5).trans rfl, (blk_cell K39.out 6).trans rfl, (blk_cell K39.out 7).trans rfl, (blk_cell K39.out 8).trans rfl, (blk_cell K39.out 9).trans rfl, (blk_cell K39.out 10).trans rfl, (blk_cell K39.out 11).trans rfl, (blk_cell K39.out 12).trans rfl, (blk_cell K39.out 13).trans rfl, (blk_cell K39.out 14).trans rfl, (blk_cell K39.out 15).trans rfl, (blk_cell K39.out 16).trans rfl, (blk_cell K39.out 17).trans rfl⟩ (fun hHeld => ?_)
  clear hK K
  refine laq_ 9 none rfl rfl (fun K hK => ?_)
  refine skip_ (w1 := World.setRow wa g5 #[.slice AC sf.cells.length cC, .slice AO sf.outs.length cO, .slice AR sf.reads.length cR, .int .i64 sf.cyc, .int .u8 sf.op]) (by rfl) rfl ?_ ?_
  · refine run_store_row 48 (.tmp 5) (.tmp 85) ?_ g5 ?_ 48 _ #[.slice AC sf.cells.length cC, .slice AO sf.outs.length cO, .slice AR sf.reads.length cR, .int .i64 sf.cyc, .int .u8 sf.op] ?_ K5.out (by kernel_rfl) rfl (by kernel_rfl)
    · rfl
    · rfl
    · rfl
  (try replace HC := Aside0.mk (R_kb HC.out K5.out (fun q hq => by rw [ekC q hq]; decide) (keep_row _ g5 #[.slice AC sf.cells.length cC, .slice AO sf.outs.length cO, .slice AR sf.reads.length cR, .int .i64 sf.cyc, .int .u8 sf.op])))
  (try replace HO := Aside0.mk (R_kb HO.out K5.out (fun q hq => by rw [ekC q hq]; decide) (keep_row _ g5 #[.slice AC sf.cells.length cC, .slice AO sf.outs.length cO, .slice AR sf.reads.length cR, .int .i64 sf.cyc, .int .u8 sf.op])))
  (try replace HR := Aside0.mk (R_kb HR.out K5.out (fun q hq => by rw [ekS q hq]; decide) (keep_row _ g5 #[.slice AC sf.cells.length cC, .slice AO sf.outs.length cO, .slice AR sf.reads.length cR, .int .i64 sf.cyc, .int .u8 sf.op])))
  replace HB := Aside0.mk (below_setRow HB.out L5.out #[.slice AC sf.cells.length cC, .slice AO sf.outs.length cO, .slice AR sf.reads.length cR, .int .i64 sf.cyc, .int .u8 sf.op])
  replace K39 := Aside0.mk (blk_row_far K39.out (by first | exact NE39_5.out | exact NE5_39.out.symm) #[.slice AC sf.cells.length cC, .slice AO sf.outs.length cO, .slice AR sf.reads.length cR, .int .i64 sf.cyc, .int .u8 sf.op])
  replace K4 := Aside0.mk (blk_row_far K4.out (by first | exact NE4_5.out | exact NE5_4.out.symm) #[.slice AC sf.cells.length cC, .slice AO sf.outs.length cO, .slice AR sf.reads.length cR, .int .i64 sf.cyc, .int .u8 sf.op])
  replace K5 := Aside0.mk (blk_row K5.out #[.slice AC sf.cells.length cC, .slice AO sf.outs.length cO, .slice AR sf.reads.length cR, .int .i64 sf.cyc, .int .u8 sf.op])
  generalize World.setRow wa g5 #[.slice AC sf.cells.length cC, .slice AO sf.outs.length cO, .slice AR sf.reads.length cR, .int .i64 sf.cyc, .int .u8 sf.op] = we at K39 K4 K5 HB HC HO HR ⊢
  refine hK.out _ _ ?_
  clear hK K
  refine pvq_ 10 (some 6) rfl rfl ?_
  refine done_ (by kernel_rfl) ?_
  go_wp2
  refine bodyPost_ret (results_list (rs := [.cell 4 26, .cell 5 48, .tmp 6]) rfl (by simp) (.cell g4 26 (aSF sf) (0, 0) _ rfl K4.out Tryz.underlying26 rfl (by kernel_rfl) (.cell g5 48 #[.slice AC sf.cells.length cC, .slice AO sf.outs.length cO, .slice AR sf.reads.length cR, .int .i64 sf.cyc, .int .u8 sf.op] (0, 0) _ rfl K5.out Tryz.underlying48 rfl (by kernel_rfl) (.tmp .nil)))) rfl ?_
  rw [HSF.out]
  exact ⟨_, _, _, rfl, Kd.R_mono HC.out (fun _ h => h.2), Kd.R_mono HO.out (fun _ h => h.2), HR.out, HB.out⟩
theorem step_CD (w : World) (hv : VwAt w A0 A1 A2 v) (hc0 : v.e.length ≤ c0) (hc1 : v.f.length ≤ c1) (hc2 : v.c.length ≤ c2) (hk : r.Kinds) (he : sErr r v = 0) (hx : fC r v ≠ 27 → ExecOk (fC r v)) (hs : spotted (fC r v) = false) (hk1 : (((Isa.opN (fC r v)).2.2.2.1 == 1) = false ∧ ((Isa.opN (fC r v)).2.2.2.1 == 3) = true ∧ ((Isa.opN (fC r v)).2.1.toList == ([84, 67] : List UInt8)) = true ∧ fC r v ≠ 27) ∨ (((Isa.opN (fC r v)).2.2.2.1 == 1) = false ∧ ((Isa.opN (fC r v)).2.2.2.1 == 3) = false ∧ fC r v ≠ 27) ∨ (((Isa.opN (fC r v)).2.2.2.1 == 1) = false ∧ ((Isa.opN (fC r v)).2.2.2.1 == 3) = false ∧ fC r v = 27)) : Calls Tryz.prog 21 #[.agg (aRG r), .agg (aVB v A0 A1 A2 c0 c1 c2)] w fun e w' => ∃ vC vO vR : Value, e = .returned (.tuple #[.agg #[.int .u16 (stepN r v).r.a, .int .u16 (stepN r v).r.l, .int .u16 (stepN r v).r.q, .int .i64 (stepN r v).r.z, .int .i64 (stepN r v).r.eb, .int .i64 (stepN r v).r.fb, .int .i64 (stepN r v).r.su, .bool (stepN r v).r.ext, .int .u16 (stepN r v).r.idx, .bool (stepN r v).r.held, .int .u16 (stepN r v).r.b, .bool (stepN r v).r.inh, .bool (stepN r v).r.srv], .agg #[vC, vO, vR, .int .i64 (stepN r v).cyc, .int .u8 (stepN r v).op], .int .i64 0]) ∧ Kd.R k61 61 w' w.heap.size (fun k => some k ≠ vO.ownBlock) vC (stepN r v).cells ∧ Kd.R k61 61 w' w.heap.size (fun k => some k ≠ vC.ownBlock) vO (stepN r v).outs ∧ Kd.R k64 64 w' w.heap.size (fun _ => True) vR (stepN r v).reads ∧ Below w.heap.size w w' := by
 have EX := Aside0.mk hx
 clear hx
 have he0 := sErr_f he
 have hm := fErr_may he0
 have ok := nx_ok (Rg.Ok.of_may hk hm)
 have y0 : (0 : Int) = 0 := rfl
 clear y0
 have FE := Aside0.mk he0
 have CB := Aside0.mk (fC_b r v)
 have KB := Aside0.mk (fK_b r v)
 have OK := Aside0.mk ok
 have S0 : Aside0 (0 ≤ (st1 r v).sp.f1 ∧ (st1 r v).sp.f1 < 40000) := ⟨by unfold st1; rw [if_neg (by rw [hs]; decide)]; exact ⟨Int.le_refl 0, (by decide : (0 : Int) < 40000)⟩⟩
 have SPO := Aside0.mk hs
 clear hs
 have HB := Aside0.mk (Below.refl w.heap.size w)
 have HV := Aside0.mk hv
 have HK := Aside0.mk hk
 clear hv hk he hm ok he0
 have hu0 := Tryz.underlying26
 have hu1 := Tryz.underlying29
 have hu2 := Tryz.underlying41
 have hu3 := Tryz.underlying48
 have hu4 := Tryz.underlying97
 have hu5 := Tryz.underlying64
 rcases hk1 with ⟨yk1, yk3, yn, n27⟩ | ⟨yk1, yk3, n27⟩ | ⟨yk1, yk3, n27⟩
 have C27 : Aside0 (decide (fC r v ≠ 27) = true) := ⟨decide_eq_true n27⟩
 have N27 := Aside0.mk n27
 rotate_left
 have C27 : Aside0 (decide (fC r v ≠ 27) = true) := ⟨decide_eq_true n27⟩
 have N27 := Aside0.mk n27
 rotate_left
 have C27 : Aside0 (decide (fC r v ≠ 27) = false) := ⟨decide_eq_false (fun h => h n27)⟩
 have E27 := Aside0.mk n27
 all_goals clear n27
 all_goals
  go_enter Tryz.func21, Tryz.ntmps21
  go_upto_region 1 with (first | (refine boxq_ 2 (aRG r) 26 ?_; intro g2 hg wb K hb; (try have NE2_2 := nkb_ K2 hg); (try have NE3_2 := nkb_ K3 hg); (try have NE4_2 := nkb_ K4 hg); (try have NE5_2 := nkb_ K5 hg); have L2 := lkb_ HB hg; (try replace K2 := kbb_ K2 hb); (try replace K3 := kbb_ K3 hb); (try replace K4 := kbb_ K4 hb); (try replace K5 := kbb_ K5 hb); replace HB := hbs_ HB hb; have K2 := Aside0.mk K; clear K hb hg) | (refine boxq_ 3 (aVB v A0 A1 A2 c0 c1 c2) 29 ?_; intro g3 hg wb K hb; (try have NE2_3 := nkb_ K2 hg); (try have NE3_3 := nkb_ K3 hg); (try have NE4_3 := nkb_ K4 hg); (try have NE5_3 := nkb_ K5 hg); have L3 := lkb_ HB hg; (try replace K2 := kbb_ K2 hb); (try replace K3 := kbb_ K3 hb); (try replace K4 := kbb_ K4 hb); (try replace K5 := kbb_ K5 hb); replace HB := hbs_ HB hb; have K3 := Aside0.mk K; clear K hb hg) | (refine boxq_ 4 (aZR) 26 ?_; intro g4 hg wb K hb; (try have NE2_4 := nkb_ K2 hg); (try have NE3_4 := nkb_ K3 hg); (try have NE4_4 := nkb_ K4 hg); (try have NE5_4 := nkb_ K5 hg); have L4 := lkb_ HB hg; (try replace K2 := kbb_ K2 hb); (try replace K3 := kbb_ K3 hb); (try replace K4 := kbb_ K4 hb); (try replace K5 := kbb_ K5 hb); replace HB := hbs_ HB hb; have K4 := Aside0.mk K; clear K hb hg) | (refine boxq_ 5 (aZD) 48 ?_; intro g5 hg w1 K hb; (try have NE2_5 := nkb_ K2 hg); (try have NE3_5 := nkb_ K3 hg); (try have NE4_5 := nkb_ K4 hg); (try have NE5_5 := nkb_ K5 hg); have L5 := lkb_ HB hg; (try replace K2 := kbb_ K2 hb); (try replace K3 := kbb_ K3 hb); (try replace K4 := kbb_ K4 hb); (try replace K5 := kbb_ K5 hb); replace HB := hbs_ HB hb; have K5 := Aside0.mk K; clear K hb hg))
  have HW := HB
  have M4 := K4
  have M5 := K5
  have M4b := Aside0.mk (blk_lt K4.out)
  have M5b := Aside0.mk (blk_lt K5.out)
  clear HB
  have HB := Aside0.mk (Below.refl w1.heap.size w1)
  go_upto_region 5 with (first | (go_at_call 18; (with_reducible refine at_args #[.agg (aRG r), .agg (aVB v A0 A1 A2 c0 c1 c2)] ?_); (with_reducible refine (fetch_c (r := r) (v := v) _ (HV.out.below HW.out) hc0 hc1 hc2 HK.out FE.out).mono ?_); rintro e wc ⟨vl, rfl, hL, hb⟩; obtain ⟨Al, cl, rfl⟩ := Kd.R_slice hL; have HL := Aside0.mk hL; clear hL; (try replace K3 := kbb_ K3 hb); (try replace K7 := kbb_ K7 hb); (try replace K9 := kbb_ K9 hb); (try replace K39 := kbb_ K39 hb); replace HB := hbs_ HB hb; clear hb) | (refine boxq_ 7 (aZO) 41 ?_; intro g7 hg wb K hb; (try have NE3_7 := nkb_ K3 hg); (try have NE7_7 := nkb_ K7 hg); (try have NE9_7 := nkb_ K9 hg); (try have NE39_7 := nkb_ K39 hg); have L7 := Aside0.mk (show w1.heap.size ≤ g7 from by rw [hg]; exact HB.out.size); (try replace HL := Aside0.mk (Kd.R_below HL.out hb)); (try replace K3 := kbb_ K3 hb); (try replace K7 := kbb_ K7 hb); (try replace K9 := kbb_ K9 hb); (try replace K39 := kbb_ K39 hb); replace HB := hbs_ HB hb; have K7 := Aside0.mk K; clear K hb hg) | (refine boxq_ 9 (aZR) 26 ?_; intro g9 hg wb K hb; (try have NE3_9 := nkb_ K3 hg); (try have NE7_9 := nkb_ K7 hg); (try have NE9_9 := nkb_ K9 hg); (try have NE39_9 := nkb_ K39 hg); have L9 := Aside0.mk (show w1.heap.size ≤ g9 from by rw [hg]; exact HB.out.size); (try replace HL := Aside0.mk (Kd.R_below HL.out hb)); (try replace K3 := kbb_ K3 hb); (try replace K7 := kbb_ K7 hb); (try replace K9 := kbb_ K9 hb); (try replace K39 := kbb_ K39 hb); replace HB := hbs_ HB hb; have K9 := Aside0.mk K; clear K hb hg) | (refine strq_ 41 7 19 g7 (aOC r v) K7 ?_; intro ws hk hfar hbel hkp; (try replace HL := Aside0.mk (R_kb HL.out K7.out (fun q hq => by rw [ekS q hq]; decide) hkp)); replace HB := Aside0.mk (hbel _ _ HB.out L7.out); (try replace K3 := hfr_ hfar K3 (by first | exact NE3_7.out | exact NE7_3.out.symm)); (try replace K7 := hfr_ hfar K7 (by first | exact NE7_7.out | exact NE7_7.out.symm)); (try replace K9 := hfr_ hfar K9 (by first | exact NE9_7.out | exact NE7_9.out.symm)); (try replace K39 := hfr_ hfar K39 (by first | exact NE39_7.out | exact NE7_39.out.symm)); replace K7 := Aside0.mk hk; clear hk hfar hbel hkp) | (refine strq_ 26 9 21 g9 (aNX r) K9 ?_; intro ws hk hfar hbel hkp; (try replace HL := Aside0.mk (R_kb HL.out K9.out (fun q hq => by rw [ekS q hq]; decide) hkp)); replace HB := Aside0.mk (hbel _ _ HB.out L9.out); (try replace K3 := hfr_ hfar K3 (by first | exact NE3_9.out | exact NE9_3.out.symm)); (try replace K7 := hfr_ hfar K7 (by first | exact NE7_9.out | exact NE9_7.out.symm)); (try replace K9 := hfr_ hfar K9 (by first | exact NE9_9.out | exact NE9_9.out.symm)); (try replace K39 := hfr_ hfar K39 (by first | exact NE39_9.out | exact NE9_39.out.symm)); replace K9 := Aside0.mk hk; clear hk hfar hbel hkp) | ((with_reducible refine gate_dst (N := 35) rfl ?_); refine Kd.event_run (v := .agg #[.slice none 0 0, .slice none 0 0, .slice Al (fLst r v).length cl, .int .i64 (Isa.opN (fC r v)).2.2.2.2.2.1, .int .u8 (fC r v)]) (w1 := _) rfl ?hr2 ?_; (case hr2 => kernel_rfl)) | ((with_reducible refine gate_dst (N := 38) rfl ?_); refine Kd.event_run (v := .agg (aPC r v Al cl A0 A1 A2 c0 c1 c2)) (w1 := _) rfl ?hr2 ?_; (case hr2 => kernel_rfl)) | (refine boxq_ 39 (aPC r v Al cl A0 A1 A2 c0 c1 c2) 97 ?_; intro g39 hg wb K hb; (try have NE3_39 := nkb_ K3 hg); (try have NE7_39 := nkb_ K7 hg); (try have NE9_39 := nkb_ K9 hg); (try have NE39_39 := nkb_ K39 hg); have L39 := Aside0.mk (show w1.heap.size ≤ g39 from by rw [hg]; exact HB.out.size); (try replace HL := Aside0.mk (Kd.R_below HL.out hb)); (try replace K3 := kbb_ K3 hb); (try replace K7 := kbb_ K7 hb); (try replace K9 := kbb_ K9 hb); (try replace K39 := kbb_ K39 hb); replace HB := hbs_ HB hb; have K39 := Aside0.mk K; clear K hb hg) | (refine load_row_ rfl 26 _ rfl g2 rfl #[.int .u16 r.a, .int .u16 r.l, .int .u16 r.q, .int .i64 r.z, .int .i64 r.eb, .int .i64 r.fb, .int .i64 r.su, .bool r.ext, .int .u16 r.idx, .bool r.held, .int .u16 r.b, .bool r.inh, .bool r.srv] _ K2.out _ Tryz.underlying26 rfl (by kernel_rfl) ?_) | (refine load_row_ rfl 29 _ rfl g3 rfl #[.slice A0 v.e.length c0, .slice A1 v.f.length c1, .slice A2 v.c.length c2] _ K3.out _ Tryz.underlying29 rfl (by kernel_rfl) ?_) | (refine load_row_ rfl 26 _ rfl g9 rfl #[.int .u16 r.a, .int .u16 r.l, .int .u16 r.q, .int .i64 ((r.z + 1) % 4096), .int .i64 r.eb, .int .i64 r.fb, .int .i64 r.su, .bool false, .int .u16 0, .bool false, .int .u16 0, .bool r.inh, .bool r.srv] _ K9.out _ Tryz.underlying26 rfl (by kernel_rfl) ?_) | (refine load_cell_ rfl 3 _ rfl g7 5 rfl (.int .i64 (Isa.opN (fC r v)).2.2.2.2.2.1) ((blk_cell K7.out 5).trans rfl) (fun _ => by kernel_rfl) ?_) | (refine load_cell_ rfl 38 _ rfl g7 0 rfl (.int .u8 (fC r v)) ((blk_cell K7.out 0).trans rfl) (fun _ => by kernel_rfl) ?_) | (refine load_cell_ rfl 39 _ rfl g7 3 rfl (.int .u8 (Isa.opN (fC r v)).2.2.2.1) ((blk_cell K7.out 3).trans rfl) (fun _ => by kernel_rfl) ?_) | (refine load_cell_ rfl 9 _ rfl g7 1 rfl (.string (Isa.opN (fC r v)).2.1) ((blk_cell K7.out 1).trans rfl) (fun _ => by kernel_rfl) ?_))
  have x7_1 : wb.cell? ⟨g7, 1, none⟩ = some (.string (Isa.opN (fC r v)).2.1) := (blk_cell K7.out 1).trans rfl
  have x7_3 : wb.cell? ⟨g7, 3, none⟩ = some (.int .u8 (Isa.opN (fC r v)).2.2.2.1) := (blk_cell K7.out 3).trans rfl
  go_upto_region 9 with (first | fail)
  clear x7_1 x7_3
  refine start_ (n := 10) (S := fun w' => w'.cell? ⟨g7, 1, none⟩ = some (.string (Isa.opN (fC r v)).2.1)) (ds := []) #[false, false, false, false, false, false, false, false, false, false] (by kernel_rfl) rfl rfl ((blk_cell K7.out 1).trans rfl) (fun hHeld => ?_)
  replace K7 := Aside0.mk (blk_drew K7.out)
  replace K39 := Aside0.mk (blk_drew K39.out)
  (try replace HL := Aside0.mk (Kd.R_drew HL.out))
  replace HB := Aside0.mk (below_drew1 HB.out)
  generalize wb.drew = wd at K7 K39 HB hHeld HL ⊢
  refine pvq_ 0 (some 68) rfl rfl ?_
  refine pvq_ 2 (some 70) rfl rfl ?_
  refine tkq_ 3 (some 71) rfl rfl hHeld ?_
  refine onq_ 1 (some 69) rfl rfl (fun K hK => ?_)
  refine goq_ Tryz.func50 #[.pointer (some ⟨g39, 0, none⟩)] ?_
  with_reducible refine (table_c g39 _).mono ?_
  rintro e wt ⟨gx, bm, rfl, hM, lx, hX, hb⟩
  refine ⟨_, rfl, ?_⟩
  have NX := Aside0.mk (show gx ≠ g39 from by have := blk_lt K39.out; omega)
  have KX := Aside0.mk hX
  have HM := Aside0.mk hM
  clear hM hX lx
  replace K7 := kbb_ K7 hb
  replace K39 := kbb_ K39 hb
  (try replace HL := Aside0.mk (Kd.R_below HL.out hb))
  replace HB := hbs_ HB hb
  clear hb
  obtain ⟨u, hlook, hu⟩ := look_tab HM.out (fC r v) CB.out.1 CB.out.2
  replace hlook := Aside0.mk hlook
  replace hu := Aside0.mk hu
  rw [C27.out] at hlook
  refine hK.out _ _ ((blk_cell K7.out 1).trans rfl) (fun hHeld => ?_)
  clear hK K
  refine nmq_ (some 69) ?_
  refine onq_ 4 (some 72) rfl rfl (fun K hK => ?_)
  first | refine value_ (w1 := wt) (v := .tuple #[u, .bool true]) (by rfl) rfl (run_lookup_ rfl rfl rfl hlook.out) ?_ | refine value_ (w1 := wt) (v := .tuple #[u, .bool false]) (by rfl) rfl (run_lookup_ rfl rfl rfl hlook.out) ?_
  refine hK.out _ _ ((blk_cell K7.out 1).trans rfl) (fun hHeld => ?_)
  clear hK K
  refine nmq_ (some 72) ?_
  refine pvq_ 5 (some 67) rfl rfl ?_
  refine pvq_ 6 (some 73) rfl rfl ?_
  refine pvq_ 7 (some 74) rfl rfl ?_
  refine pvq_ 8 (some 13) rfl rfl ?_
  refine pvq_ 9 (some 14) rfl rfl ?_
  refine done_ (by kernel_rfl) ?_
  have E1 : st1 r v = st0 r v := by unfold st1; rw [if_neg (by rw [SPO.out]; decide)]
  have SB := st1_sz r v
  have HP : (⟨w1, g39, gx, A0, A1, A2, c0, c1, c2, v⟩ : Cx).P 1 (st1 r v) wt := by
   refine ⟨?_, ⟨HV.out.below HW.out, hc0, hc1, hc2⟩, SB⟩
   rw [E1]
   exact ⟨_, _, _, ⟨HB.out, L39.out, by decide, by decide, K39.out, fun c e => by cases e; exact ⟨KX.out, NX.out⟩, Kd.R_nil _ _ _ _ _, Kd.R_nil _ _ _ _ _, HL.out⟩⟩
  first
  | (have HC := EX.out N27.out _ _ _ _ HP (by rw [st1_r]; exact OK.out) S0.out.1 S0.out.2 (by rw [st1_k]; exact KB.out.1) (by decide); have HCC := Aside0.mk HC; replace hu := Aside0.mk (hu.out N27.out); clear HC HP SB E1 HL K7 K39 KX NX HB HM hlook; go_upto_region 12 with (first | (refine call_fval rfl (.tmp 76) rfl (fC r v) g39 gx CB.out.1 CB.out.2 N27.out hu.out ?_; (with_reducible refine HCC.out.mono ?_); rintro e wf ⟨rfl, m, hP⟩; refine ⟨_, rfl, ?_⟩; have HPF := Aside0.mk hP; clear hP HCC)); replace HPF : Aside0 (∃ m, Cx.P ⟨w1, g39, gx, A0, A1, A2, c0, c1, c2, v⟩ m (stepN r v) wf) := ⟨m, HPF.out⟩)
  | (have HPF : Aside0 (∃ m, Cx.P ⟨w1, g39, gx, A0, A1, A2, c0, c1, c2, v⟩ m (stepN r v) wt) := ⟨1, (show stepN r v = st1 r v from (by unfold stepN; rw [E27.out]; rfl)) ▸ HP⟩; clear HP SB E1 HL K7 K39 KX NX HB HM hlook; go_upto_region 12 with (first | fail); generalize hwf : wt = wf at *; clear hwf)
  obtain ⟨sf, hsf⟩ : ∃ x, stepN r v = x := ⟨_, rfl⟩
  rw [hsf] at HPF
  obtain ⟨m, HPM⟩ := HPF.out
  have HSF := Aside0.mk hsf
  clear hsf
  obtain ⟨vC, vO, vR, RF⟩ := HPM.run
  obtain ⟨AC, cC, rfl⟩ := Kd.R_slice RF.rc
  obtain ⟨AO, cO, rfl⟩ := Kd.R_slice RF.ro
  obtain ⟨AR, cR, rfl⟩ := Kd.R_slice RF.rr
  have HB := Aside0.mk (below_step HW.out RF.hb)
  have K39 := Aside0.mk (show wf.heap[g39]? = some (.cells #[.int .u16 sf.r.a, .int .u16 sf.r.l, .int .u16 sf.r.q, .int .i64 sf.r.z, .int .i64 sf.r.eb, .int .i64 sf.r.fb, .int .i64 sf.r.su, .bool sf.r.ext, .int .u16 sf.r.idx, .bool sf.r.held, .int .u16 sf.r.b, .bool sf.r.inh, .bool sf.r.srv, .slice AC sf.cells.length cC, .slice AO sf.outs.length cO, .slice AR sf.reads.length cR, .int .i64 sf.cyc, .int .u8 sf.op, .slice A0 v.e.length c0, .slice A1 v.f.length c1, .slice A2 v.c.length c2, .int .i64 sf.k, .int .u8 sf.sp.f0, .int .i64 sf.sp.f1] 97 (0, 0)) from RF.blk)
  have K4 := Aside0.mk (blk_below M4.out RF.hb)
  have K5 := Aside0.mk (blk_below M5.out RF.hb)
  have HC := Aside0.mk (Kd.R_lower RF.rc HW.out.size)
  have HO := Aside0.mk (Kd.R_lower RF.ro HW.out.size)
  have HR := Aside0.mk (Kd.R_lower RF.rr HW.out.size)
  have NE4_39 := Aside0.mk (show g4 ≠ g39 from by have := M4b.out; have := L39.out; omega)
  have NE5_39 := Aside0.mk (show g5 ≠ g39 from by have := M5b.out; have := L39.out; omega)
  clear RF HPM HPF M4 M5
  refine start_ (n := 11) (S := fun w' => w'.cell? ⟨g39, 0, none⟩ = some (.int .u16 sf.r.a) ∧ w'.cell? ⟨g39, 1, none⟩ = some (.int .u16 sf.r.l) ∧ w'.cell? ⟨g39, 2, none⟩ = some (.int .u16 sf.r.q) ∧ w'.cell? ⟨g39, 3, none⟩ = some (.int .i64 sf.r.z) ∧ w'.cell? ⟨g39, 4, none⟩ = some (.int .i64 sf.r.eb) ∧ w'.cell? ⟨g39, 5, none⟩ = some (.int .i64 sf.r.fb) ∧ w'.cell? ⟨g39, 6, none⟩ = some (.int .i64 sf.r.su) ∧ w'.cell? ⟨g39, 7, none⟩ = some (.bool sf.r.ext) ∧ w'.cell? ⟨g39, 8, none⟩ = some (.int .u16 sf.r.idx) ∧ w'.cell? ⟨g39, 9, none⟩ = some (.bool sf.r.held) ∧ w'.cell? ⟨g39, 10, none⟩ = some (.int .u16 sf.r.b) ∧ w'.cell? ⟨g39, 11, none⟩ = some (.bool sf.r.inh) ∧ w'.cell? ⟨g39, 12, none⟩ = some (.bool sf.r.srv) ∧ w'.cell? ⟨g39, 13, none⟩ = some (.slice AC sf.cells.length cC) ∧ w'.cell? ⟨g39, 14, none⟩ = some (.slice AO sf.outs.length cO) ∧ w'.cell? ⟨g39, 15, none⟩ = some (.slice AR sf.reads.length cR) ∧ w'.cell? ⟨g39, 16, none⟩ = some (.int .i64 sf.cyc) ∧ w'.cell? ⟨g39, 17, none⟩ = some (.int .u8 sf.op)) (ds := [9]) #[false, false, false, false, false, false, false, false, false, false, false] (by kernel_rfl) rfl rfl ⟨(blk_cell K39.out 0).trans rfl, (blk_cell K39.out 1).trans rfl, (blk_cell K39.out 2).trans rfl, (blk_cell K39.out 3).trans rfl, (blk_cell K39.out 4).trans rfl, (blk_cell K39.out 5).trans rfl, (blk_cell K39.out 6).trans rfl, (blk_cell K39.out 7).trans rfl, (blk_cell K39.out 8).trans rfl, (blk_cell K39.out 9).trans rfl, (blk_cell K39.out 10).trans rfl, (blk_cell K39.out 11).trans rfl, (blk_cell K39.out 12).trans rfl, (blk_cell K39.out 13).trans rfl, (blk_cell K39.out 14).trans rfl, (blk_cell K39.out 15).trans rfl, (blk_cell K39.out 16).trans rfl, (blk_cell K39.out 17).trans rfl⟩ (fun hHeld => ?_)
  replace K39 := Aside0.mk (blk_drew K39.out)
  replace K4 := Aside0.mk (blk_drew K4.out)
  replace K5 := Aside0.mk (blk_drew K5.out)
  (try replace HC := Aside0.mk (Kd.R_drew HC.out))
  (try replace HO := Aside0.mk (Kd.R_drew HO.out))
  (try replace HR := Aside0.mk (Kd.R_drew HR.out))
  replace HB := Aside0.mk (below_drew1 HB.out)
  generalize wf.drew = wd at K39 K4 K5 HB hHeld HC HO HR ⊢
  refine pvq_ 0 (some 78) rfl rfl ?_
  refine pvq_ 1 (some 79) rfl rfl ?_
  refine pvq_ 2 (some 80) rfl rfl ?_
  refine pvq_ 4 (some 82) rfl rfl ?_
  refine pvq_ 5 (some 83) rfl rfl ?_
  refine pvq_ 6 (some 84) rfl rfl ?_
  refine tkq_ 3 (some 81) rfl rfl hHeld ?_
  refine tkq_ 7 (some 85) rfl rfl hHeld ?_
  refine onq_ 8 none rfl rfl (fun K hK => ?_)
  refine skip_ (w1 := World.setRow wd g4 #[.int .u16 sf.r.a, .int .u16 sf.r.l, .int .u16 sf.r.q, .int .i64 sf.r.z, .int .i64 sf.r.eb, .int .i64 sf.r.fb, .int .i64 sf.r.su, .bool sf.r.ext, .int .u16 sf.r.idx, .bool sf.r.held, .int .u16 sf.r.b, .bool sf.r.inh, .bool sf.r.srv]) (by rfl) rfl ?_ ?_
  · refine run_store_row 26 (.tmp 4) (.tmp 81) ?_ g4 ?_ 26 _ #[.int .u16 sf.r.a, .int .u16 sf.r.l, .int .u16 sf.r.q, .int .i64 sf.r.z, .int .i64 sf.r.eb, .int .i64 sf.r.fb, .int .i64 sf.r.su, .bool sf.r.ext, .int .u16 sf.r.idx, .bool sf.r.held, .int .u16 sf.r.b, .bool sf.r.inh, .bool sf.r.srv] ?_ K4.out (by kernel_rfl) rfl (by kernel_rfl)
    · rfl
    · rfl
    · rfl
  (try replace HC := Aside0.mk (R_kb HC.out K4.out (fun q hq => by rw [ekC q hq]; decide) (keep_row _ g4 #[.int .u16 sf.r.a, .int .u16 sf.r.l, .int .u16 sf.r.q, .int .i64 sf.r.z, .int .i64 sf.r.eb, .int .i64 sf.r.fb, .int .i64 sf.r.su, .bool sf.r.ext, .int .u16 sf.r.idx, .bool sf.r.held, .int .u16 sf.r.b, .bool sf.r.inh, .bool sf.r.srv])))
  (try replace HO := Aside0.mk (R_kb HO.out K4.out (fun q hq => by rw [ekC q hq]; decide) (keep_row _ g4 #[.int .u16 sf.r.a, .int .u16 sf.r.l, .int .u16 sf.r.q, .int .i64 sf.r.z, .int .i64 sf.r.eb, .int .i64 sf.r.fb, .int .i64 sf.r.su, .bool sf.r.ext, .int .u16 sf.r.idx, .bool sf.r.held, .int .u16 sf.r.b, .bool sf.r.inh, .bool sf.r.srv])))
  (try replace HR := Aside0.mk (R_kb HR.out K4.out (fun q hq => by rw [ekS q hq]; decide) (keep_row _ g4 #[.int .u16 sf.r.a, .int .u16 sf.r.l, .int .u16 sf.r.q, .int .i64 sf.r.z, .int .i64 sf.r.eb, .int .i64 sf.r.fb, .int .i64 sf.r.su, .bool sf.r.ext, .int .u16 sf.r.idx, .bool sf.r.held, .int .u16 sf.r.b, .bool sf.r.inh, .bool sf.r.srv])))
  replace HB := Aside0.mk (below_setRow HB.out L4.out #[.int .u16 sf.r.a, .int .u16 sf.r.l, .int .u16 sf.r.q, .int .i64 sf.r.z, .int .i64 sf.r.eb, .int .i64 sf.r.fb, .int .i64 sf.r.su, .bool sf.r.ext, .int .u16 sf.r.idx, .bool sf.r.held, .int .u16 sf.r.b, .bool sf.r.inh, .bool sf.r.srv])
  replace K39 := Aside0.mk (blk_row_far K39.out (by first | exact NE39_4.out | exact NE4_39.out.symm) #[.int .u16 sf.r.a, .int .u16 sf.r.l, .int .u16 sf.r.q, .int .i64 sf.r.z, .int .i64 sf.r.eb, .int .i64 sf.r.fb, .int .i64 sf.r.su, .bool sf.r.ext, .int .u16 sf.r.idx, .bool sf.r.held, .int .u16 sf.r.b, .bool sf.r.inh, .bool sf.r.srv])
  replace K5 := Aside0.mk (blk_row_far K5.out (by first | exact NE5_4.out | exact NE4_5.out.symm) #[.int .u16 sf.r.a, .int .u16 sf.r.l, .int .u16 sf.r.q, .int .i64 sf.r.z, .int .i64 sf.r.eb, .int .i64 sf.r.fb, .int .i64 sf.r.su, .bool sf.r.ext, .int .u16 sf.r.idx, .bool sf.r.held, .int .u16 sf.r.b, .bool sf.r.inh, .bool sf.r.srv])
  replace K4 := Aside0.mk (blk_row K4.out #[.int .u16 sf.r.a, .int .u16 sf.r.l, .int .u16 sf.r.q, .int .i64 sf.r.z, .int .i64 sf.r.eb, .int .i64 sf.r.fb, .int .i64 sf.r.su, .bool sf.r.ext, .int .u16 sf.r.idx, .bool sf.r.held, .int .u16 sf.r.b, .bool sf.r.inh, .bool sf.r.srv])
  generalize World.setRow wd g4 #[.int .u16 sf.r.a, .int .u16 sf.r.l, .int .u16 sf.r.q, .int .i64 sf.r.z, .int .i64 sf.r.eb, .int .i64 sf.r.fb, .int .i64 sf.r.su, .bool sf.r.ext, .int .u16 sf.r.idx, .bool sf.r.held, .int .u16 sf.r.b, .bool sf.r.inh, .bool sf.r.srv] = wa at K39 K4 K5 HB HC HO HR ⊢
  refine hK.out _ _ ⟨(blk_cell K39.out 0).trans rfl, (blk_cell K39.out 1).trans rfl, (blk_cell K39.out 2).trans rfl, (blk_cell K39.out 3).trans rfl, (blk_cell K39.out 4).trans rfl, (blk_cell K39.out 5).trans rfl, (blk_cell K39.out 6).trans rfl, (blk_cell K39.out 7).trans rfl, (blk_cell K39.out 8).trans rfl, (blk_cell K39.out 9).trans rfl, (blk_cell K39.out 10).trans rfl, (blk_cell K39.out 11).trans rfl, (blk_cell K39.out 12).trans rfl, (blk_cell K39.out 13).trans rfl, (blk_cell K39.out 14).trans rfl, (blk_cell K39.out 15).trans rfl, (blk_cell K39.out 16).trans rfl, (blk_cell K39.out 17).trans rfl⟩ (fun hHeld => ?_)
  clear hK K
  refine laq_ 9 none rfl rfl (fun K hK => ?_)
  refine skip_ (w1 := World.setRow wa g5 #[.slice AC sf.cells.length cC, .slice AO sf.outs.length cO, .slice AR sf.reads.length cR, .int .i64 sf.cyc, .int .u8 sf.op]) (by rfl) rfl ?_ ?_
  · refine run_store_row 48 (.tmp 5) (.tmp 85) ?_ g5 ?_ 48 _ #[.slice AC sf.cells.length cC, .slice AO sf.outs.length cO, .slice AR sf.reads.length cR, .int .i64 sf.cyc, .int .u8 sf.op] ?_ K5.out (by kernel_rfl) rfl (by kernel_rfl)
    · rfl
    · rfl
    · rfl
  (try replace HC := Aside0.mk (R_kb HC.out K5.out (fun q hq => by rw [ekC q hq]; decide) (keep_row _ g5 #[.slice AC sf.cells.length cC, .slice AO sf.outs.length cO, .slice AR sf.reads.length cR, .int .i64 sf.cyc, .int .u8 sf.op])))
  (try replace HO := Aside0.mk (R_kb HO.out K5.out (fun q hq => by rw [ekC q hq]; decide) (keep_row _ g5 #[.slice AC sf.cells.length cC, .slice AO sf.outs.length cO, .slice AR sf.reads.length cR, .int .i64 sf.cyc, .int .u8 sf.op])))
  (try replace HR := Aside0.mk (R_kb HR.out K5.out (fun q hq => by rw [ekS q hq]; decide) (keep_row _ g5 #[.slice AC sf.cells.length cC, .slice AO sf.outs.length cO, .slice AR sf.reads.length cR, .int .i64 sf.cyc, .int .u8 sf.op])))
  replace HB := Aside0.mk (below_setRow HB.out L5.out #[.slice AC sf.cells.length cC, .slice AO sf.outs.length cO, .slice AR sf.reads.length cR, .int .i64 sf.cyc, .int .u8 sf.op])
  replace K39 := Aside0.mk (blk_row_far K39.out (by first | exact NE39_5.out | exact NE5_39.out.symm) #[.slice AC sf.cells.length cC, .slice AO sf.outs.length cO, .slice AR sf.reads.length cR, .int .i64 sf.cyc, .int .u8 sf.op])
  replace K4 := Aside0.mk (blk_row_far K4.out (by first | exact NE4_5.out | exact NE5_4.out.symm) #[.slice AC sf.cells.length cC, .slice AO sf.outs.length cO, .slice AR sf.reads.length cR, .int .i64 sf.cyc, .int .u8 sf.op])
  replace K5 := Aside0.mk (blk_row K5.out #[.slice AC sf.cells.length cC, .slice AO sf.outs.length cO, .slice AR sf.reads.length cR, .int .i64 sf.cyc, .int .u8 sf.op])
  generalize World.setRow wa g5 #[.slice AC sf.cells.length cC, .slice AO sf.outs.length cO, .slice AR sf.reads.length cR, .int .i64 sf.cyc, .int .u8 sf.op] = we at K39 K4 K5 HB HC HO HR ⊢
  refine hK.out _ _ ?_
  clear hK K
  refine pvq_ 10 (some 6) rfl rfl ?_
  refine done_ (by kernel_rfl) ?_
  go_wp2
  refine bodyPost_ret (results_list (rs := [.cell 4 26, .cell 5 48, .tmp 6]) rfl (by simp) (.cell g4 26 (aSF sf) (0, 0) _ rfl K4.out Tryz.underlying26 rfl (by kernel_rfl) (.cell g5 48 #[.slice AC sf.cells.length cC, .slice AO sf.outs.length cO, .slice AR sf.reads.length cR, .int .i64 sf.cyc, .int .u8 sf.op] (0, 0) _ rfl K5.out Tryz.underlying48 rfl (by kernel_rfl) (.tmp .nil)))) rfl ?_
  rw [HSF.out]
  exact ⟨_, _, _, rfl, Kd.R_mono HC.out (fun _ h => h.2), Kd.R_mono HO.out (fun _ h => h.2), HR.out, HB.out⟩
theorem step_eA (w : World) (hv : VwAt w A0 A1 A2 v) (hc0 : v.e.length ≤ c0) (hc1 : v.f.length ≤ c1) (hc2 : v.c.length ≤ c2) (hk : r.Kinds) (he0 : fErr r v = 0) (hs : spotted (fC r v) = true) (le : (locN (nxR r) (fK r v)).2 ≠ 0) (hk1 : ((Isa.opN (fC r v)).2.2.2.1 == 1) = true ∨ (((Isa.opN (fC r v)).2.2.2.1 == 1) = false ∧ ((Isa.opN (fC r v)).2.2.2.1 == 3) = true ∧ ((Isa.opN (fC r v)).2.1.toList == ([84, 67] : List UInt8)) = false)) : Calls Tryz.prog 21 #[.agg (aRG r), .agg (aVB v A0 A1 A2 c0 c1 c2)] w fun e w' => e = .returned (.tuple #[.agg (aZR), .agg (aZD), .int .i64 (sErr r v)]) ∧ Below w.heap.size w w' := by
 have es : sErr r v = (locN (nxR r) (fK r v)).2 := by unfold sErr; rw [if_neg (by omega), if_pos hs]
 rw [es]
 have LC : Aside0 (∀ w, Calls Tryz.prog 41 #[.agg (aNX r), .int .i64 (fK r v)] w fun e w' => e = .returned (.tuple #[.agg #[.int .u8 (locN (nxR r) (fK r v)).1.f0, .int .i64 (locN (nxR r) (fK r v)).1.f1], .int .i64 (locN (nxR r) (fK r v)).2]) ∧ Below w.heap.size w w') := ⟨fun w => locate_c (nxR r) (fK r v) w⟩
 have y9 : ((locN (nxR r) (fK r v)).2 != 0) = true := by simpa using le
 have FE := Aside0.mk he0
 have HB := Aside0.mk (Below.refl w.heap.size w)
 have HV := Aside0.mk hv
 have HK := Aside0.mk hk
 clear hv hk he0 hs le es
 have hu0 := Tryz.underlying26
 have hu1 := Tryz.underlying29
 have hu2 := Tryz.underlying41
 have hu3 := Tryz.underlying48
 have hu4 := Tryz.underlying97
 have hu5 := Tryz.underlying64
 rcases hk1 with yk1 | ⟨yk1, yk3, yn⟩
 all_goals
  go_enter Tryz.func21, Tryz.ntmps21
  go_upto_region 5 with (first | (refine boxq_ 2 (aRG r) 26 ?_; intro g2 hg w1 K hb; (try have NE2_2 := nkb_ K2 hg); (try have NE3_2 := nkb_ K3 hg); (try have NE4_2 := nkb_ K4 hg); (try have NE5_2 := nkb_ K5 hg); have L2 := lkb_ HB hg; (try replace K2 := kbb_ K2 hb); (try replace K3 := kbb_ K3 hb); (try replace K4 := kbb_ K4 hb); (try replace K5 := kbb_ K5 hb); replace HB := hbs_ HB hb; have K2 := Aside0.mk K; clear K hb hg) | (refine boxq_ 3 (aVB v A0 A1 A2 c0 c1 c2) 29 ?_; intro g3 hg w1 K hb; (try have NE2_3 := nkb_ K2 hg); (try have NE3_3 := nkb_ K3 hg); (try have NE4_3 := nkb_ K4 hg); (try have NE5_3 := nkb_ K5 hg); have L3 := lkb_ HB hg; (try replace K2 := kbb_ K2 hb); (try replace K3 := kbb_ K3 hb); (try replace K4 := kbb_ K4 hb); (try replace K5 := kbb_ K5 hb); replace HB := hbs_ HB hb; have K3 := Aside0.mk K; clear K hb hg) | (refine boxq_ 4 (aZR) 26 ?_; intro g4 hg w1 K hb; (try have NE2_4 := nkb_ K2 hg); (try have NE3_4 := nkb_ K3 hg); (try have NE4_4 := nkb_ K4 hg); (try have NE5_4 := nkb_ K5 hg); have L4 := lkb_ HB hg; (try replace K2 := kbb_ K2 hb); (try replace K3 := kbb_ K3 hb); (try replace K4 := kbb_ K4 hb); (try replace K5 := kbb_ K5 hb); replace HB := hbs_ HB hb; have K4 := Aside0.mk K; clear K hb hg) | (refine boxq_ 5 (aZD) 48 ?_; intro g5 hg w1 K hb; (try have NE2_5 := nkb_ K2 hg); (try have NE3_5 := nkb_ K3 hg); (try have NE4_5 := nkb_ K4 hg); (try have NE5_5 := nkb_ K5 hg); have L5 := lkb_ HB hg; (try replace K2 := kbb_ K2 hb); (try replace K3 := kbb_ K3 hb); (try replace K4 := kbb_ K4 hb); (try replace K5 := kbb_ K5 hb); replace HB := hbs_ HB hb; have K5 := Aside0.mk K; clear K hb hg) | (refine load_row_ rfl 26 _ rfl g2 rfl #[.int .u16 r.a, .int .u16 r.l, .int .u16 r.q, .int .i64 r.z, .int .i64 r.eb, .int .i64 r.fb, .int .i64 r.su, .bool r.ext, .int .u16 r.idx, .bool r.held, .int .u16 r.b, .bool r.inh, .bool r.srv] _ K2.out _ Tryz.underlying26 rfl (by kernel_rfl) ?_) | (refine load_row_ rfl 29 _ rfl g3 rfl #[.slice A0 v.e.length c0, .slice A1 v.f.length c1, .slice A2 v.c.length c2] _ K3.out _ Tryz.underlying29 rfl (by kernel_rfl) ?_) | (refine load_row_ rfl 26 _ rfl g9 rfl #[.int .u16 r.a, .int .u16 r.l, .int .u16 r.q, .int .i64 ((r.z + 1) % 4096), .int .i64 r.eb, .int .i64 r.fb, .int .i64 r.su, .bool false, .int .u16 0, .bool false, .int .u16 0, .bool r.inh, .bool r.srv] _ K9.out _ Tryz.underlying26 rfl (by kernel_rfl) ?_) | (refine load_cell_ rfl 3 _ rfl g7 5 rfl (.int .i64 (Isa.opN (fC r v)).2.2.2.2.2.1) ((blk_cell K7.out 5).trans rfl) (fun _ => by kernel_rfl) ?_) | (refine load_cell_ rfl 38 _ rfl g7 0 rfl (.int .u8 (fC r v)) ((blk_cell K7.out 0).trans rfl) (fun _ => by kernel_rfl) ?_) | (refine load_cell_ rfl 39 _ rfl g7 3 rfl (.int .u8 (Isa.opN (fC r v)).2.2.2.1) ((blk_cell K7.out 3).trans rfl) (fun _ => by kernel_rfl) ?_) | (refine load_cell_ rfl 9 _ rfl g7 1 rfl (.string (Isa.opN (fC r v)).2.1) ((blk_cell K7.out 1).trans rfl) (fun _ => by kernel_rfl) ?_) | ((with_reducible refine gate_dst (N := 35) rfl ?_); refine Kd.event_run (v := .agg #[.slice none 0 0, .slice none 0 0, .slice Al (fLst r v).length cl, .int .i64 (Isa.opN (fC r v)).2.2.2.2.2.1, .int .u8 (fC r v)]) (w1 := _) rfl ?hr2 ?_; (case hr2 => kernel_rfl)) | ((with_reducible refine gate_dst (N := 38) rfl ?_); refine Kd.event_run (v := .agg (aPC r v Al cl A0 A1 A2 c0 c1 c2)) (w1 := _) rfl ?hr2 ?_; (case hr2 => kernel_rfl)) | (go_at_call 18; (with_reducible refine at_args #[.agg (aRG r), .agg (aVB v A0 A1 A2 c0 c1 c2)] ?_); (with_reducible refine (fetch_c (r := r) (v := v) _ (HV.out.below HB.out) hc0 hc1 hc2 HK.out FE.out).mono ?_); rintro e wc ⟨vl, rfl, hL, hb⟩; obtain ⟨Al, cl, rfl⟩ := Kd.R_slice hL; clear hL; (try replace K2 := kbb_ K2 hb); (try replace K3 := kbb_ K3 hb); (try replace K4 := kbb_ K4 hb); (try replace K5 := kbb_ K5 hb); (try replace K7 := kbb_ K7 hb); (try replace K9 := kbb_ K9 hb); (try replace K39 := kbb_ K39 hb); replace HB := hbs_ HB hb; clear hb) | (refine boxq_ 7 (aZO) 41 ?_; intro g7 hg wb K hb; (try have NE2_7 := nkb_ K2 hg); (try have NE3_7 := nkb_ K3 hg); (try have NE4_7 := nkb_ K4 hg); (try have NE5_7 := nkb_ K5 hg); (try have NE7_7 := nkb_ K7 hg); (try have NE9_7 := nkb_ K9 hg); (try have NE39_7 := nkb_ K39 hg); have L7 := lkb_ HB hg; (try replace K2 := kbb_ K2 hb); (try replace K3 := kbb_ K3 hb); (try replace K4 := kbb_ K4 hb); (try replace K5 := kbb_ K5 hb); (try replace K7 := kbb_ K7 hb); (try replace K9 := kbb_ K9 hb); (try replace K39 := kbb_ K39 hb); replace HB := hbs_ HB hb; have K7 := Aside0.mk K; clear K hb hg) | (refine boxq_ 9 (aZR) 26 ?_; intro g9 hg wb K hb; (try have NE2_9 := nkb_ K2 hg); (try have NE3_9 := nkb_ K3 hg); (try have NE4_9 := nkb_ K4 hg); (try have NE5_9 := nkb_ K5 hg); (try have NE7_9 := nkb_ K7 hg); (try have NE9_9 := nkb_ K9 hg); (try have NE39_9 := nkb_ K39 hg); have L9 := lkb_ HB hg; (try replace K2 := kbb_ K2 hb); (try replace K3 := kbb_ K3 hb); (try replace K4 := kbb_ K4 hb); (try replace K5 := kbb_ K5 hb); (try replace K7 := kbb_ K7 hb); (try replace K9 := kbb_ K9 hb); (try replace K39 := kbb_ K39 hb); replace HB := hbs_ HB hb; have K9 := Aside0.mk K; clear K hb hg) | (refine boxq_ 39 (aPC r v Al cl A0 A1 A2 c0 c1 c2) 97 ?_; intro g39 hg wb K hb; (try have NE2_39 := nkb_ K2 hg); (try have NE3_39 := nkb_ K3 hg); (try have NE4_39 := nkb_ K4 hg); (try have NE5_39 := nkb_ K5 hg); (try have NE7_39 := nkb_ K7 hg); (try have NE9_39 := nkb_ K9 hg); (try have NE39_39 := nkb_ K39 hg); have L39 := lkb_ HB hg; (try replace K2 := kbb_ K2 hb); (try replace K3 := kbb_ K3 hb); (try replace K4 := kbb_ K4 hb); (try replace K5 := kbb_ K5 hb); (try replace K7 := kbb_ K7 hb); (try replace K9 := kbb_ K9 hb); (try replace K39 := kbb_ K39 hb); replace HB := hbs_ HB hb; have K39 := Aside0.mk K; clear K hb hg) | (refine strq_ 41 7 19 g7 (aOC r v) K7 ?_; intro ws hk hfar hbel hkp; replace HB := Aside0.mk (hbel _ _ HB.out L7.out); (try replace K2 := hfr_ hfar K2 (by first | exact NE2_7.out | exact NE7_2.out.symm)); (try replace K3 := hfr_ hfar K3 (by first | exact NE3_7.out | exact NE7_3.out.symm)); (try replace K4 := hfr_ hfar K4 (by first | exact NE4_7.out | exact NE7_4.out.symm)); (try replace K5 := hfr_ hfar K5 (by first | exact NE5_7.out | exact NE7_5.out.symm)); (try replace K7 := hfr_ hfar K7 (by first | exact NE7_7.out | exact NE7_7.out.symm)); (try replace K9 := hfr_ hfar K9 (by first | exact NE9_7.out | exact NE7_9.out.symm)); (try replace K39 := hfr_ hfar K39 (by first | exact NE39_7.out | exact NE7_39.out.symm)); replace K7 := Aside0.mk hk; clear hk hfar hbel hkp) | (refine strq_ 26 9 21 g9 (aNX r) K9 ?_; intro ws hk hfar hbel hkp; replace HB := Aside0.mk (hbel _ _ HB.out L9.out); (try replace K2 := hfr_ hfar K2 (by first | exact NE2_9.out | exact NE9_2.out.symm)); (try replace K3 := hfr_ hfar K3 (by first | exact NE3_9.out | exact NE9_3.out.symm)); (try replace K4 := hfr_ hfar K4 (by first | exact NE4_9.out | exact NE9_4.out.symm)); (try replace K5 := hfr_ hfar K5 (by first | exact NE5_9.out | exact NE9_5.out.symm)); (try replace K7 := hfr_ hfar K7 (by first | exact NE7_9.out | exact NE9_7.out.symm)); (try replace K9 := hfr_ hfar K9 (by first | exact NE9_9.out | exact NE9_9.out.symm)); (try replace K39 := hfr_ hfar K39 (by first | exact NE39_9.out | exact NE9_39.out.symm)); replace K9 := Aside0.mk hk; clear hk hfar hbel hkp))
  have x7_1 : wb.cell? ⟨g7, 1, none⟩ = some (.string (Isa.opN (fC r v)).2.1) := (blk_cell K7.out 1).trans rfl
  have x7_3 : wb.cell? ⟨g7, 3, none⟩ = some (.int .u8 (Isa.opN (fC r v)).2.2.2.1) := (blk_cell K7.out 3).trans rfl
  go_upto_region 6 with (first | fail)
  clear x7_1 x7_3
  go_upto_region 7 with (first | (refine load_row_ rfl 26 _ rfl g9 rfl #[.int .u16 r.a, .int .u16 r.l, .int .u16 r.q, .int .i64 ((r.z + 1) % 4096), .int .i64 r.eb, .int .i64 r.fb, .int .i64 r.su, .bool false, .int .u16 0, .bool false, .int .u16 0, .bool r.inh, .bool r.srv] _ K9.out _ Tryz.underlying26 rfl (by kernel_rfl) ?_) | (go_at_call 41; (with_reducible refine at_args #[.agg (aNX r), .int .i64 (fK r v)] ?_); (with_reducible refine (LC.out _).mono ?_); rintro e wc ⟨rfl, hb⟩; (try replace K2 := kbb_ K2 hb); (try replace K3 := kbb_ K3 hb); (try replace K4 := kbb_ K4 hb); (try replace K5 := kbb_ K5 hb); (try replace K7 := kbb_ K7 hb); (try replace K9 := kbb_ K9 hb); (try replace K39 := kbb_ K39 hb); replace HB := hbs_ HB hb; clear hb; have x22 : wc.cell? ⟨g39, 22, none⟩ = some (.int .u8 0) := (blk_cell K39.out 22).trans rfl; have x23 : wc.cell? ⟨g39, 23, none⟩ = some (.int .i64 0) := (blk_cell K39.out 23).trans rfl; have f39 := blk_frozen K39.out))
  have n4 := Aside0.mk (show (World.heap ((wc.setCell ⟨g39, 22, none⟩ (.int .u8 (locN (nxR r) (fK r v)).1.f0)).setCell ⟨g39, 23, none⟩ (.int .i64 (locN (nxR r) (fK r v)).1.f1)))[g4]? = _ from blk_far (blk_far K4.out NE4_39.out _) NE4_39.out _)
  have n5 := Aside0.mk (show (World.heap ((wc.setCell ⟨g39, 22, none⟩ (.int .u8 (locN (nxR r) (fK r v)).1.f0)).setCell ⟨g39, 23, none⟩ (.int .i64 (locN (nxR r) (fK r v)).1.f1)))[g5]? = _ from blk_far (blk_far K5.out NE5_39.out _) NE5_39.out _)
  have nB := Aside0.mk (show Below _ _ ((wc.setCell ⟨g39, 22, none⟩ (.int .u8 (locN (nxR r) (fK r v)).1.f0)).setCell ⟨g39, 23, none⟩ (.int .i64 (locN (nxR r) (fK r v)).1.f1)) from below_set (below_set HB.out L39.out) L39.out)
  clear HB K2 K3 K4 K5 K7 K9 K39 x22 x23 f39
  have HB := nB
  have K4 := n4
  have K5 := n5
  clear nB n4 n5
  generalize ((wc.setCell ⟨g39, 22, none⟩ (.int .u8 (locN (nxR r) (fK r v)).1.f0)).setCell ⟨g39, 23, none⟩ (.int .i64 (locN (nxR r) (fK r v)).1.f1)) = w9 at HB K4 K5 ⊢
  go_wp2_with (first | (refine strq_ 26 4 64 g4 (aZR) K4 ?_; intro ws hk hfar hbel hkp; replace HB := Aside0.mk (hbel _ _ HB.out L4.out); (try replace K2 := hfr_ hfar K2 (by first | exact NE2_4.out | exact NE4_2.out.symm)); (try replace K3 := hfr_ hfar K3 (by first | exact NE3_4.out | exact NE4_3.out.symm)); (try replace K4 := hfr_ hfar K4 (by first | exact NE4_4.out | exact NE4_4.out.symm)); (try replace K5 := hfr_ hfar K5 (by first | exact NE5_4.out | exact NE4_5.out.symm)); (try replace K7 := hfr_ hfar K7 (by first | exact NE7_4.out | exact NE4_7.out.symm)); (try replace K9 := hfr_ hfar K9 (by first | exact NE9_4.out | exact NE4_9.out.symm)); (try replace K39 := hfr_ hfar K39 (by first | exact NE39_4.out | exact NE4_39.out.symm)); replace K4 := Aside0.mk hk; clear hk hfar hbel hkp) | (refine strq_ 48 5 65 g5 (aZD) K5 ?_; intro ws hk hfar hbel hkp; replace HB := Aside0.mk (hbel _ _ HB.out L5.out); (try replace K2 := hfr_ hfar K2 (by first | exact NE2_5.out | exact NE5_2.out.symm)); (try replace K3 := hfr_ hfar K3 (by first | exact NE3_5.out | exact NE5_3.out.symm)); (try replace K4 := hfr_ hfar K4 (by first | exact NE4_5.out | exact NE5_4.out.symm)); (try replace K5 := hfr_ hfar K5 (by first | exact NE5_5.out | exact NE5_5.out.symm)); (try replace K7 := hfr_ hfar K7 (by first | exact NE7_5.out | exact NE5_7.out.symm)); (try replace K9 := hfr_ hfar K9 (by first | exact NE9_5.out | exact NE5_9.out.symm)); (try replace K39 := hfr_ hfar K39 (by first | exact NE39_5.out | exact NE5_39.out.symm)); replace K5 := Aside0.mk hk; clear hk hfar hbel hkp) | ((with_reducible refine gate_dst (N := 64) rfl ?_); refine Kd.event_run (v := .agg (aZR)) (w1 := _) rfl ?hr2 ?_; (case hr2 => kernel_rfl)) | ((with_reducible refine gate_dst (N := 65) rfl ?_); refine Kd.event_run (v := .agg (aZD)) (w1 := _) rfl ?hr2 ?_; (case hr2 => kernel_rfl)))
  refine bodyPost_ret (results_list (rs := [.cell 4 26, .cell 5 48, .tmp 6]) rfl (by simp) (.cell g4 26 (aZR) (0, 0) _ rfl K4.out Tryz.underlying26 rfl (by kernel_rfl) (.cell g5 48 (aZD) (0, 0) _ rfl K5.out Tryz.underlying48 rfl (by kernel_rfl) (.tmp .nil)))) rfl ?_
  exact ⟨rfl, HB.out⟩
theorem spot_k (c : Int) (h0 : 1 ≤ c) (h1 : c ≤ 39) : spotted c = ((Isa.opN c).2.2.2.1 == 1 || ((Isa.opN c).2.2.2.1 == 3 && !((Isa.opN c).2.1.toList == ([84, 67] : List UInt8)))) := by
 have h := Isa.all_bool (f := fun c => spotted c == ((Isa.opN c).2.2.2.1 == 1 || ((Isa.opN c).2.2.2.1 == 3 && !((Isa.opN c).2.1.toList == ([84, 67] : List UInt8))))) (by kernel_rfl) h0 h1
 simpa using h
theorem step_x (w : World) (hv : VwAt w A0 A1 A2 v) (hc0 : v.e.length ≤ c0) (hc1 : v.f.length ≤ c1) (hc2 : v.c.length ≤ c2) (hk : r.Kinds) (he : sErr r v = 0) (hx : fC r v ≠ 27 → ExecOk (fC r v)) : Calls Tryz.prog 21 #[.agg (aRG r), .agg (aVB v A0 A1 A2 c0 c1 c2)] w fun e w' => ∃ vC vO vR : Value, e = .returned (.tuple #[.agg #[.int .u16 (stepN r v).r.a, .int .u16 (stepN r v).r.l, .int .u16 (stepN r v).r.q, .int .i64 (stepN r v).r.z, .int .i64 (stepN r v).r.eb, .int .i64 (stepN r v).r.fb, .int .i64 (stepN r v).r.su, .bool (stepN r v).r.ext, .int .u16 (stepN r v).r.idx, .bool (stepN r v).r.held, .int .u16 (stepN r v).r.b, .bool (stepN r v).r.inh, .bool (stepN r v).r.srv], .agg #[vC, vO, vR, .int .i64 (stepN r v).cyc, .int .u8 (stepN r v).op], .int .i64 0]) ∧ Kd.R k61 61 w' w.heap.size (fun k => some k ≠ vO.ownBlock) vC (stepN r v).cells ∧ Kd.R k61 61 w' w.heap.size (fun k => some k ≠ vC.ownBlock) vO (stepN r v).outs ∧ Kd.R k64 64 w' w.heap.size (fun _ => True) vR (stepN r v).reads ∧ Below w.heap.size w w' := by
 have hb := fC_b r v
 have hs := spot_k (fC r v) hb.1 hb.2
 have hp : ((Isa.opN 27).2.2.2.1 == 1) = false ∧ ((Isa.opN 27).2.2.2.1 == 3) = false ∧ spotted 27 = false := ⟨rfl, rfl, rfl⟩
 by_cases n27 : fC r v = 27
 · refine step_CD w hv hc0 hc1 hc2 hk he hx ?_ (Or.inr (Or.inr ⟨?_, ?_, n27⟩)) <;> rw [n27]
   · exact hp.2.2
   · exact hp.1
   · exact hp.2.1
 rcases Bool.eq_false_or_eq_true ((Isa.opN (fC r v)).2.2.2.1 == 1) with k1 | k1
 · exact step_AB w hv hc0 hc1 hc2 hk he hx (by rw [hs, k1]; rfl) n27 (Or.inl k1)
 rcases Bool.eq_false_or_eq_true ((Isa.opN (fC r v)).2.2.2.1 == 3) with k3 | k3
 · rcases Bool.eq_false_or_eq_true ((Isa.opN (fC r v)).2.1.toList == ([84, 67] : List UInt8)) with hn | hn
   case inr => exact step_AB w hv hc0 hc1 hc2 hk he hx (by rw [hs, k1, k3, hn]; rfl) n27 (Or.inr ⟨k1, k3, hn⟩)
   case inl => exact step_CD w hv hc0 hc1 hc2 hk he hx (by rw [hs, k1, k3, hn]; rfl) (Or.inl ⟨k1, k3, hn, n27⟩)
 · exact step_CD w hv hc0 hc1 hc2 hk he hx (by rw [hs, k1, k3]; rfl) (Or.inr (Or.inl ⟨k1, k3, n27⟩))
theorem step_c (w : World) (hv : VwAt w A0 A1 A2 v) (hc0 : v.e.length ≤ c0) (hc1 : v.f.length ≤ c1) (hc2 : v.c.length ≤ c2) (hk : r.Kinds) (he : sErr r v = 0) : Calls Tryz.prog 21 #[.agg (aRG r), .agg (aVB v A0 A1 A2 c0 c1 c2)] w fun e w' => ∃ vC vO vR : Value, e = .returned (.tuple #[.agg #[.int .u16 (stepN r v).r.a, .int .u16 (stepN r v).r.l, .int .u16 (stepN r v).r.q, .int .i64 (stepN r v).r.z, .int .i64 (stepN r v).r.eb, .int .i64 (stepN r v).r.fb, .int .i64 (stepN r v).r.su, .bool (stepN r v).r.ext, .int .u16 (stepN r v).r.idx, .bool (stepN r v).r.held, .int .u16 (stepN r v).r.b, .bool (stepN r v).r.inh, .bool (stepN r v).r.srv], .agg #[vC, vO, vR, .int .i64 (stepN r v).cyc, .int .u8 (stepN r v).op], .int .i64 0]) ∧ Kd.R k61 61 w' w.heap.size (fun k => some k ≠ vO.ownBlock) vC (stepN r v).cells ∧ Kd.R k61 61 w' w.heap.size (fun k => some k ≠ vC.ownBlock) vO (stepN r v).outs ∧ Kd.R k64 64 w' w.heap.size (fun _ => True) vR (stepN r v).reads ∧ Below w.heap.size w w' := step_x w hv hc0 hc1 hc2 hk he (fun ni => exec_ok (fC_b r v).1 (fC_b r v).2 ni)
theorem step_e (w : World) (hv : VwAt w A0 A1 A2 v) (hc0 : v.e.length ≤ c0) (hc1 : v.f.length ≤ c1) (hc2 : v.c.length ≤ c2) (hk : r.Kinds) (he : sErr r v ≠ 0) : Calls Tryz.prog 21 #[.agg (aRG r), .agg (aVB v A0 A1 A2 c0 c1 c2)] w fun e w' => e = .returned (.tuple #[.agg (aZR), .agg (aZD), .int .i64 (sErr r v)]) ∧ Below w.heap.size w w' := by
 by_cases h0 : fErr r v = 0
 · have hb := fC_b r v
   have hs := spot_k (fC r v) hb.1 hb.2
   rcases Bool.eq_false_or_eq_true (spotted (fC r v)) with sp | sp
   · have le : (locN (nxR r) (fK r v)).2 ≠ 0 := by unfold sErr at he; rw [if_neg (by omega), if_pos sp] at he; exact he
     rcases Bool.eq_false_or_eq_true ((Isa.opN (fC r v)).2.2.2.1 == 1) with k1 | k1
     · exact step_eA w hv hc0 hc1 hc2 hk h0 sp le (Or.inl k1)
     · rw [hs, k1] at sp
       have k3 : ((Isa.opN (fC r v)).2.2.2.1 == 3) = true := by revert sp; cases ((Isa.opN (fC r v)).2.2.2.1 == 3) <;> simp
       have hn : ((Isa.opN (fC r v)).2.1.toList == ([84, 67] : List UInt8)) = false := by revert sp; cases ((Isa.opN (fC r v)).2.1.toList == ([84, 67] : List UInt8)) <;> simp
       exact step_eA w hv hc0 hc1 hc2 hk h0 (by rw [hs, k1, k3, hn]; rfl) le (Or.inr ⟨k1, k3, hn⟩)
   · exact absurd (by unfold sErr; rw [if_neg (by omega), if_neg (by rw [sp]; decide)]) he
 · exact step_e1 w hv hc0 hc1 hc2 hk h0
end
end Go.Proofs.YthfobpkdloejfaaGreat.Cpu
end
