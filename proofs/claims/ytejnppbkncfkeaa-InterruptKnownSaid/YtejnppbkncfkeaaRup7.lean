/- The law InterruptChanges: Enter and Leave answer as their references do; for every state and memory. -/
import Derived.Test.YtejnppbkncfkeaaRup6
import Derived.Test.YtejnppbkncfkeaaRupK
namespace Go.Proofs.Ytejnppbkncfkeaa.Rup
open Go.RowKit Go.Proofs.Ytejnppbkncfkeaa.PAll Go.Proofs.YtejnppbkncfkeaaW.PrintWords Go.Proofs.YtejnppbkncfkeaaW.PrintLast Go.Proofs.YtejnppbkncfkeaaW.PrintMore Go.Proofs.Ytejnppbkncfkeaa.Plain Go.Proofs.Ytejnppbkncfkeaa.Lit
set_option linter.unusedVariables false
set_option linter.unusedSimpArgs false
theorem rEnter_f1 (a l q z eb fb su : Int) (ext : Bool) (idx : Int) (held : Bool) (b : Int) (inh srv : Bool) (s nx : Int) (k : Nat) (hm : mayB l q z eb fb su idx b = false) : periluneref07_Enter.f k a l q z eb fb su ext idx held b inh srv s nx = some (0, 0, 0, 0, 0, 0, 0, false, 0, false, 0, false, false, 0, [], 0, 2) := by
  unfold periluneref07_Enter.f
  rw [rMay_f, Option.bind_some, hm, if_neg (by decide)]
theorem rEnter_f2 (a l q z eb fb su : Int) (ext : Bool) (idx : Int) (held : Bool) (b : Int) (inh srv : Bool) (s nx : Int) (k : Nat) (hk : 30 ≤ k) (s0 : 0 ≤ s) (s1 : s < 65536) (a0 : 0 ≤ a) (a1 : a < 65536) (hm : mayB l q z eb fb su idx b = true) (hc : (if alB a idx ext held inh srv = true then chR (chI s) else (0, false)) = (0, false)) :
    periluneref07_Enter.f k a l q z eb fb su ext idx held b inh srv s nx = some (0, 0, 0, 0, 0, 0, 0, false, 0, false, 0, false, false, 0, [], 0, 14) := by
  unfold periluneref07_Enter.f
  rw [rMay_f, Option.bind_some, hm, if_pos rfl, rChoose_f s0 s1 a0 a1 hk, Option.bind_some, hc]
  rfl
theorem rEnter_f3 (a l q z eb fb su : Int) (ext : Bool) (idx : Int) (held : Bool) (b : Int) (inh srv : Bool) (s nx n : Int) (k : Nat) (hk : 30 ≤ k) (s0 : 0 ≤ s) (s1 : s < 65536) (a0 : 0 ≤ a) (a1 : a < 65536) (x0 : 0 ≤ nx) (x1 : nx < 65536) (hm : mayB l q z eb fb su idx b = true) (ha : alB a idx ext held inh srv = true) (hn : chI s = some n) :
    periluneref07_Enter.f k a l q z eb fb su ext idx held b inh srv s nx = some (a, l, q, 2048 + 4 * n, eb, fb, su, ext, idx, held, b, inh, true, le s n, [⟨13, IntKind.u16.wrap z⟩, ⟨15, nx % 32768⟩], n, 0) := by
  have nr := (chI_range hn).1
  have e3 : wrap64 (4 * n) = 4 * n := w64 (by omega) (by omega)
  have e4 : wrap64 (2048 + 4 * n) = 2048 + 4 * n := w64 (by omega) (by omega)
  have e5 : IntKind.u16.wrap (nx % 32768) = nx % 32768 := by rw [IntKind.wrap_u16]; omega
  unfold periluneref07_Enter.f
  rw [rMay_f, Option.bind_some, hm, if_pos rfl, rChoose_f s0 s1 a0 a1 hk, Option.bind_some, if_pos ha, hn]
  show (if true = true then _ else _) = _
  rw [if_pos rfl, low_f x0 x1, Option.bind_some]
  show periluneref07_Enter.l0 k n _ 0 1 a l q (wrap64 (2048 + wrap64 (4 * n))) eb fb su ext idx held b inh true s = _
  rw [e3, e4, e5, rEn_l0 n s _ a l q (2048 + 4 * n) eb fb su ext idx held b inh true s0 s1 10 k 0 1 (by decide) (by decide) (by decide) (by decide) (by omega), Int.zero_add]
  rfl
theorem tup0 (s : Int) (k : Nat) : True := trivial
/-- Enter and its reference answer alike. -/
theorem enter_both (a l q z eb fb su : Int) (ext : Bool) (idx : Int) (held : Bool) (b : Int) (inh srv : Bool) (s nx : Int) (s0 : 0 ≤ s) (s1 : s < 65536) (a0 : 0 ≤ a) (a1 : a < 65536) (x0 : 0 ≤ nx) (x1 : nx < 65536) :
    ∃ (r0 r1 r2 r3 r4 r5 r6 : Int) (r7 : Bool) (r8 : Int) (r9 : Bool) (r10 : Int) (r11 r12 : Bool) (r13 : Int) (r14 : List S49) (r15 r16 : Int), r14.length ≤ 2 ∧ (∀ w, Calls Try.prog 8 #[.agg #[.int .u16 a, .int .u16 l, .int .u16 q, .int .i64 z, .int .i64 eb, .int .i64 fb, .int .i64 su, .bool ext, .int .u16 idx, .bool held, .int .u16 b, .bool inh, .bool srv], .agg #[.int .u16 s], .int .u16 nx] w fun e w' => ∃ v, e = .returned (.tuple #[.agg #[.int .u16 r0, .int .u16 r1, .int .u16 r2, .int .i64 r3, .int .i64 r4, .int .i64 r5, .int .i64 r6, .bool r7, .int .u16 r8, .bool r9, .int .u16 r10, .bool r11, .bool r12], .agg #[.int .u16 r13], v, .int .i64 r15, .int .i64 r16]) ∧ Kd.R k49 49 w' w.heap.size (fun _ => True) v r14 ∧ Below w.heap.size w w') ∧ (∀ w, Calls Try.prog 9 #[.agg #[.int .u16 a, .int .u16 l, .int .u16 q, .int .i64 z, .int .i64 eb, .int .i64 fb, .int .i64 su, .bool ext, .int .u16 idx, .bool held, .int .u16 b, .bool inh, .bool srv], .agg #[.int .u16 s], .int .u16 nx] w fun e w' => ∃ v, e = .returned (.tuple #[.agg #[.int .u16 r0, .int .u16 r1, .int .u16 r2, .int .i64 r3, .int .i64 r4, .int .i64 r5, .int .i64 r6, .bool r7, .int .u16 r8, .bool r9, .int .u16 r10, .bool r11, .bool r12], .agg #[.int .u16 r13], v, .int .i64 r15, .int .i64 r16]) ∧ Kd.R k49 49 w' w.heap.size (fun _ => True) v r14 ∧ Below w.heap.size w w') := by
  cases hm : mayB l q z eb fb su idx b with
  | false =>
    exact ⟨0, 0, 0, 0, 0, 0, 0, false, 0, false, 0, false, false, 0, [], 0, 2, by decide, fun w => (Enter_c1 a l q z eb fb su ext idx held b inh srv s nx s0 s1 hm w).mono (fun e w' h => ⟨_, h.1, Kd.R_nil _ _ _ _ _, h.2⟩), fun w => periluneref07_Enter.calls 40 a l q z eb fb su ext idx held b inh srv s nx _ _ _ _ _ _ _ _ _ _ _ _ _ _ _ _ _ w (rEnter_f1 a l q z eb fb su ext idx held b inh srv s nx 40 hm)⟩
  | true =>
    have no : (if alB a idx ext held inh srv = true then chR (chI s) else (0, false)) = (0, false) → ∃ (r0 r1 r2 r3 r4 r5 r6 : Int) (r7 : Bool) (r8 : Int) (r9 : Bool) (r10 : Int) (r11 r12 : Bool) (r13 : Int) (r14 : List S49) (r15 r16 : Int), r14.length ≤ 2 ∧ (∀ w, Calls Try.prog 8 #[.agg #[.int .u16 a, .int .u16 l, .int .u16 q, .int .i64 z, .int .i64 eb, .int .i64 fb, .int .i64 su, .bool ext, .int .u16 idx, .bool held, .int .u16 b, .bool inh, .bool srv], .agg #[.int .u16 s], .int .u16 nx] w fun e w' => ∃ v, e = .returned (.tuple #[.agg #[.int .u16 r0, .int .u16 r1, .int .u16 r2, .int .i64 r3, .int .i64 r4, .int .i64 r5, .int .i64 r6, .bool r7, .int .u16 r8, .bool r9, .int .u16 r10, .bool r11, .bool r12], .agg #[.int .u16 r13], v, .int .i64 r15, .int .i64 r16]) ∧ Kd.R k49 49 w' w.heap.size (fun _ => True) v r14 ∧ Below w.heap.size w w') ∧ (∀ w, Calls Try.prog 9 #[.agg #[.int .u16 a, .int .u16 l, .int .u16 q, .int .i64 z, .int .i64 eb, .int .i64 fb, .int .i64 su, .bool ext, .int .u16 idx, .bool held, .int .u16 b, .bool inh, .bool srv], .agg #[.int .u16 s], .int .u16 nx] w fun e w' => ∃ v, e = .returned (.tuple #[.agg #[.int .u16 r0, .int .u16 r1, .int .u16 r2, .int .i64 r3, .int .i64 r4, .int .i64 r5, .int .i64 r6, .bool r7, .int .u16 r8, .bool r9, .int .u16 r10, .bool r11, .bool r12], .agg #[.int .u16 r13], v, .int .i64 r15, .int .i64 r16]) ∧ Kd.R k49 49 w' w.heap.size (fun _ => True) v r14 ∧ Below w.heap.size w w') := fun hc =>
      ⟨0, 0, 0, 0, 0, 0, 0, false, 0, false, 0, false, false, 0, [], 0, 14, by decide, fun w => (Enter_c2 a l q z eb fb su ext idx held b inh srv s nx s0 s1 hm hc w).mono (fun e w' h => ⟨_, h.1, Kd.R_nil _ _ _ _ _, h.2⟩), fun w => periluneref07_Enter.calls 40 a l q z eb fb su ext idx held b inh srv s nx _ _ _ _ _ _ _ _ _ _ _ _ _ _ _ _ _ w (rEnter_f2 a l q z eb fb su ext idx held b inh srv s nx 40 (by decide) s0 s1 a0 a1 hm hc)⟩
    cases ha : alB a idx ext held inh srv with
    | false => exact no (by rw [ha]; rfl)
    | true =>
      cases hn : chI s with
      | none => exact no (by rw [ha, hn]; rfl)
      | some n => exact ⟨a, l, q, 2048 + 4 * n, eb, fb, su, ext, idx, held, b, inh, true, le s n, [⟨13, IntKind.u16.wrap z⟩, ⟨15, nx % 32768⟩], n, 0, Nat.le_refl 2, fun w => Enter_c3 a l q z eb fb su ext idx held b inh srv s nx n s0 s1 x0 x1 hm ha hn w, fun w => periluneref07_Enter.calls 40 a l q z eb fb su ext idx held b inh srv s nx _ _ _ _ _ _ _ _ _ _ _ _ _ _ _ _ _ w (rEnter_f3 a l q z eb fb su ext idx held b inh srv s nx n 40 (by decide) s0 s1 a0 a1 x0 x1 hm ha hn)⟩
theorem wd_sv (l : List Int) (k : Nat) : wdI l (k : Int) = svN l k % 32768 := by
  unfold wdI svN
  by_cases h : k < l.length
  · rw [if_pos (by omega), if_pos h]
  · rw [if_neg (by omega), if_neg h]; rfl
theorem rLeave_f (a l q z eb fb su : Int) (ext : Bool) (idx : Int) (held : Bool) (b : Int) (inh srv : Bool) (xs : List Int) (hx : ∀ x ∈ xs, 0 ≤ x ∧ x < 65536) : periluneref07_Leave.f a l q z eb fb su ext idx held b inh srv xs = some (a, l, q, svN xs 13 % 4096, eb, fb, su, ext, idx, true, svN xs 15 % 32768, inh, false) := by
  have h13 := svN_range hx 13
  have h15 := svN_range hx 15
  unfold periluneref07_Leave.f
  rw [word_f (by decide) hx, Option.bind_some, word_f (by decide) hx, Option.bind_some, show (13 : Int) = ((13 : Nat) : Int) from rfl, show (15 : Int) = ((15 : Nat) : Int) from rfl, wd_sv, wd_sv, Int.tmod_eq_emod_of_nonneg (by omega), IntKind.wrap_u16, show svN xs 13 % 32768 % 4096 = svN xs 13 % 4096 by omega, show svN xs 15 % 32768 % 65536 = svN xs 15 % 32768 by omega]
theorem cells_eq (l : List S49) (hl : l.length ≤ 2) : periluneref05_Cells.f 20 l l = some true := by
  match l, hl with
  | [], _ => rfl
  | [x], _ => simp [periluneref05_Cells.f, periluneref05_Cells.l0, periluneref05_Cells.j1, wrap64]
  | [x, y], _ => simp [periluneref05_Cells.f, periluneref05_Cells.l0, periluneref05_Cells.j1, wrap64]
theorem lk4 (a l q z eb fb su : Int) (ext : Bool) (idx : Int) (held : Bool) (b : Int) (inh srv : Bool) (s : Int) (w : World) : (World.heap ((w.alloc (.cells #[.int .u16 a, .int .u16 l, .int .u16 q, .int .i64 z, .int .i64 eb, .int .i64 fb, .int .i64 su, .bool ext, .int .u16 idx, .bool held, .int .u16 b, .bool inh, .bool srv] 26)).alloc (.cells #[.int .u16 s] 28)))[w.heap.size + 1]? = some (.cells #[.int .u16 s] 28 (0, 0)) := by
  have h := blk_new (w.alloc (.cells #[.int .u16 a, .int .u16 l, .int .u16 q, .int .i64 z, .int .i64 eb, .int .i64 fb, .int .i64 su, .bool ext, .int .u16 idx, .bool held, .int .u16 b, .bool inh, .bool srv] 26)) (.cells #[.int .u16 s] 28)
  rw [World.size_alloc] at h
  exact h
theorem next_sel (xs : List Int) (hx : ∀ x ∈ xs, 0 ≤ x ∧ x < 65536) : ∃ nx : Int, (0 ≤ nx ∧ nx < 65536) ∧ ((0 < xs.length ∧ rd xs 0 = nx) ∨ (xs.length = 0 ∧ nx = 0)) := by
  by_cases h : 0 < xs.length
  · refine ⟨rd xs 0, ?_, .inl ⟨h, rfl⟩⟩
    unfold rd
    rw [List.getD_eq_getElem?_getD, List.getElem?_eq_getElem (by exact h)]
    exact hx _ (List.getElem_mem _)
  · exact ⟨0, by decide, .inr ⟨by omega, rfl⟩⟩
set_option maxRecDepth 100000 in
set_option maxHeartbeats 8000000 in
theorem changes_calls (a l q z eb fb su : Int) (ext : Bool) (idx : Int) (held : Bool) (b : Int) (inh srv : Bool) (s : Int) (A0 : Option Addr) (c0 : Nat) (xs : List Int) (w : World) (s0 : 0 ≤ s) (s1 : s < 65536) (a0 : 0 ≤ a) (a1 : a < 65536) (hr : Kd.C (Kd.int .u16) w A0 xs.length xs) (hc : xs.length ≤ c0) (hx : ∀ x ∈ xs, 0 ≤ x ∧ x < 65536) :
    Calls Try.prog 3 #[.agg #[.int .u16 a, .int .u16 l, .int .u16 q, .int .i64 z, .int .i64 eb, .int .i64 fb, .int .i64 su, .bool ext, .int .u16 idx, .bool held, .int .u16 b, .bool inh, .bool srv], .agg #[.int .u16 s], .slice A0 xs.length c0] w fun e w' => e = .returned (.bool true) ∧ Below w.heap.size w w' := by
  have LP := Lib.hid fun (w : World) h => Leave_c a l q z eb fb su ext idx held b inh srv A0 c0 xs w h hc hx
  have LR := Lib.hid fun (w : World) h => periluneref07_Leave.calls a l q z eb fb su ext idx held b inh srv A0 c0 xs _ _ _ _ _ _ _ _ _ _ _ _ _ w h hc (rLeave_f a l q z eb fb su ext idx held b inh srv xs hx)
  obtain ⟨nx, hnx, hsel⟩ := next_sel xs hx
  obtain ⟨r0, r1, r2, r3, r4, r5, r6, r7, r8, r9, r10, r11, r12, r13, r14, r15, r16, h14, EP, ER⟩ := enter_both a l q z eb fb su ext idx held b inh srv s nx s0 s1 a0 a1 hnx.1 hnx.2
  replace EP := Lib.hid EP
  replace ER := Lib.hid ER
  have CQ := Lib.hid (cells_eq r14 h14)
  generalize svN xs 13 % 4096 = v13 at LP LR
  generalize svN xs 15 % 32768 = v15 at LP LR
  have HB := Aside0.mk (Below.refl w.heap.size w)
  have HR := Aside0.mk hr
  have h26 := fun d w => eqS26 d w r0 r1 r2 r3 r4 r5 r6 r7 r8 r9 r10 r11 r12
  have h26b := fun d w => eqS26 d w a l q v13 eb fb su ext idx true v15 inh false
  have h28 := fun d w => eqA28 d w r13 r13
  have q13 : (r13 == r13) = true := beq_self_eq_true _
  have q15 : (r15 == r15) = true := beq_self_eq_true _
  have q16 : (r16 == r16) = true := beq_self_eq_true _
  clear hr hx h14 hnx s0 s1 a0 a1
  rcases hsel with ⟨hp, hn⟩ | ⟨hp, hn⟩
  · have b0 : decide (0 < (xs.length : Int)) = true := decide_eq_true (by omega)
    have p0 := eq_true (show (0 : Int) < (xs.length : Int) by omega)
    have p1 := eq_true hp
    obtain ⟨ad, eA, hx0⟩ := Kd.at_int HR.out 0 (by decide) (by omega)
    cases eA
    rw [hn] at hx0
    rw [show ad.add (0 : Int).toNat = ad from by unfold Addr.add; split <;> simp_all] at hx0
    replace hx0 := ((((Below.refl w.heap.size w).alloc (Nat.le_refl _) (.cells #[.int .u16 a, .int .u16 l, .int .u16 q, .int .i64 z, .int .i64 eb, .int .i64 fb, .int .i64 su, .bool ext, .int .u16 idx, .bool held, .int .u16 b, .bool inh, .bool srv] 26)).alloc (by simp) (.cells #[.int .u16 s] 28)).cell (World.block_lt_of_cell? _ _ hx0)).trans hx0
    clear hp hn
    go_enter Try.func3, Try.ntmps3
    go_upto_region 5 with (first | (go_at_call 8; (with_reducible refine at_args #[.agg #[.int .u16 a, .int .u16 l, .int .u16 q, .int .i64 z, .int .i64 eb, .int .i64 fb, .int .i64 su, .bool ext, .int .u16 idx, .bool held, .int .u16 b, .bool inh, .bool srv], .agg #[.int .u16 s], .int .u16 _] ?_); (with_reducible refine (EP.out _).mono ?_); rintro e w1 ⟨v, rfl, hR, hbz⟩; obtain ⟨A1, c1, rfl, hc1, hC⟩ := Kd.R_reads hR; have C1 := Aside0.mk hC; clear hR hC; have K3 := Aside0.mk (blk_below (blk_alloc (blk_new w (.cells #[.int .u16 a, .int .u16 l, .int .u16 q, .int .i64 z, .int .i64 eb, .int .i64 fb, .int .i64 su, .bool ext, .int .u16 idx, .bool held, .int .u16 b, .bool inh, .bool srv] 26)) (.cells #[.int .u16 s] 28)) hbz); have K4 := Aside0.mk (blk_below (lk4 a l q z eb fb su ext idx held b inh srv s w) hbz); have HBn := Aside0.mk (below_step (by repeat (first | (with_reducible first | exact HB.out | apply below_alloc | apply pw_below_drewN | apply below_drew1) | exact HB.out)) hbz); clear HB; have HB := HBn; clear HBn; clear hbz))
    have n3 : Aside0 ((World.heap ((w1.alloc (.cells #[.int .u16 r0, .int .u16 r1, .int .u16 r2, .int .i64 r3, .int .i64 r4, .int .i64 r5, .int .i64 r6, .bool r7, .int .u16 r8, .bool r9, .int .u16 r10, .bool r11, .bool r12] 26)).alloc (.cells #[.int .u16 r13] 28)))[w.heap.size]? = some (.cells #[.int .u16 a, .int .u16 l, .int .u16 q, .int .i64 z, .int .i64 eb, .int .i64 fb, .int .i64 su, .bool ext, .int .u16 idx, .bool held, .int .u16 b, .bool inh, .bool srv] 26 (0, 0))) := ⟨blk_alloc (blk_alloc K3.out _) _⟩
    have n4 : Aside0 ((World.heap ((w1.alloc (.cells #[.int .u16 r0, .int .u16 r1, .int .u16 r2, .int .i64 r3, .int .i64 r4, .int .i64 r5, .int .i64 r6, .bool r7, .int .u16 r8, .bool r9, .int .u16 r10, .bool r11, .bool r12] 26)).alloc (.cells #[.int .u16 r13] 28)))[w.heap.size + 1]? = some (.cells #[.int .u16 s] 28 (0, 0))) := ⟨blk_alloc (blk_alloc K4.out _) _⟩
    have n8 : Aside0 ((World.heap ((w1.alloc (.cells #[.int .u16 r0, .int .u16 r1, .int .u16 r2, .int .i64 r3, .int .i64 r4, .int .i64 r5, .int .i64 r6, .bool r7, .int .u16 r8, .bool r9, .int .u16 r10, .bool r11, .bool r12] 26)).alloc (.cells #[.int .u16 r13] 28)))[w1.heap.size]? = some (.cells #[.int .u16 r0, .int .u16 r1, .int .u16 r2, .int .i64 r3, .int .i64 r4, .int .i64 r5, .int .i64 r6, .bool r7, .int .u16 r8, .bool r9, .int .u16 r10, .bool r11, .bool r12] 26 (0, 0))) := ⟨blk_alloc (blk_new w1 _) _⟩
    have n9 : Aside0 ((World.heap ((w1.alloc (.cells #[.int .u16 r0, .int .u16 r1, .int .u16 r2, .int .i64 r3, .int .i64 r4, .int .i64 r5, .int .i64 r6, .bool r7, .int .u16 r8, .bool r9, .int .u16 r10, .bool r11, .bool r12] 26)).alloc (.cells #[.int .u16 r13] 28)))[w1.heap.size + 1]? = some (.cells #[.int .u16 r13] 28 (0, 0))) := ⟨(by have h := blk_new (w1.alloc (.cells #[.int .u16 r0, .int .u16 r1, .int .u16 r2, .int .i64 r3, .int .i64 r4, .int .i64 r5, .int .i64 r6, .bool r7, .int .u16 r8, .bool r9, .int .u16 r10, .bool r11, .bool r12] 26)) (.cells #[.int .u16 r13] 28); rw [World.size_alloc] at h; exact h)⟩
    have nC : Aside0 (Kd.C k49 ((w1.alloc (.cells #[.int .u16 r0, .int .u16 r1, .int .u16 r2, .int .i64 r3, .int .i64 r4, .int .i64 r5, .int .i64 r6, .bool r7, .int .u16 r8, .bool r9, .int .u16 r10, .bool r11, .bool r12] 26)).alloc (.cells #[.int .u16 r13] 28)) A1 r14.length r14) := ⟨Kd.C_alloc (Kd.C_alloc C1.out _) _⟩
    have nB : Aside0 (Below w.heap.size w ((w1.alloc (.cells #[.int .u16 r0, .int .u16 r1, .int .u16 r2, .int .i64 r3, .int .i64 r4, .int .i64 r5, .int .i64 r6, .bool r7, .int .u16 r8, .bool r9, .int .u16 r10, .bool r11, .bool r12] 26)).alloc (.cells #[.int .u16 r13] 28))) := ⟨below_alloc (below_alloc HB.out _) _⟩
    clear K3 K4 C1 HB
    generalize (w1.alloc (.cells #[.int .u16 r0, .int .u16 r1, .int .u16 r2, .int .i64 r3, .int .i64 r4, .int .i64 r5, .int .i64 r6, .bool r7, .int .u16 r8, .bool r9, .int .u16 r10, .bool r11, .bool r12] 26)).alloc (.cells #[.int .u16 r13] 28) = w5 at n3 n4 n8 n9 nC nB ⊢
    obtain ⟨b8, hb8⟩ : ∃ x, w1.heap.size = x := ⟨_, rfl⟩
    rw [hb8] at n8 n9 ⊢
    clear hb8
    have K3 := n3
    have K4 := n4
    have K8 := n8
    have K9 := n9
    have C1 := nC
    have HB := nB
    clear n3 n4 n8 n9 nC nB
    have x0 : w5.cell? ⟨w.heap.size, 0, none⟩ = some (.int .u16 a) := (blk_cell K3.out 0).trans rfl
    have x1 : w5.cell? ⟨w.heap.size, 1, none⟩ = some (.int .u16 l) := (blk_cell K3.out 1).trans rfl
    have x2 : w5.cell? ⟨w.heap.size, 2, none⟩ = some (.int .u16 q) := (blk_cell K3.out 2).trans rfl
    have x3 : w5.cell? ⟨w.heap.size, 3, none⟩ = some (.int .i64 z) := (blk_cell K3.out 3).trans rfl
    have x4 : w5.cell? ⟨w.heap.size, 4, none⟩ = some (.int .i64 eb) := (blk_cell K3.out 4).trans rfl
    have x5 : w5.cell? ⟨w.heap.size, 5, none⟩ = some (.int .i64 fb) := (blk_cell K3.out 5).trans rfl
    have x6 : w5.cell? ⟨w.heap.size, 6, none⟩ = some (.int .i64 su) := (blk_cell K3.out 6).trans rfl
    have x7 : w5.cell? ⟨w.heap.size, 7, none⟩ = some (.bool ext) := (blk_cell K3.out 7).trans rfl
    have x8 : w5.cell? ⟨w.heap.size, 8, none⟩ = some (.int .u16 idx) := (blk_cell K3.out 8).trans rfl
    have x9 : w5.cell? ⟨w.heap.size, 9, none⟩ = some (.bool held) := (blk_cell K3.out 9).trans rfl
    have x10 : w5.cell? ⟨w.heap.size, 10, none⟩ = some (.int .u16 b) := (blk_cell K3.out 10).trans rfl
    have x11 : w5.cell? ⟨w.heap.size, 11, none⟩ = some (.bool inh) := (blk_cell K3.out 11).trans rfl
    have x12 : w5.cell? ⟨w.heap.size, 12, none⟩ = some (.bool srv) := (blk_cell K3.out 12).trans rfl
    have u0 : w5.cell? ⟨w.heap.size + 1, 0, none⟩ = some (.int .u16 s) := (blk_cell K4.out 0).trans rfl
    go_upto_region 6 with (first | (go_at_call 9; (with_reducible refine at_args #[.agg #[.int .u16 a, .int .u16 l, .int .u16 q, .int .i64 z, .int .i64 eb, .int .i64 fb, .int .i64 su, .bool ext, .int .u16 idx, .bool held, .int .u16 b, .bool inh, .bool srv], .agg #[.int .u16 s], .int .u16 _] ?_); (with_reducible refine (ER.out _).mono ?_); rintro e w2 ⟨v, rfl, hR, hbz⟩; obtain ⟨A2, c2, rfl, hc2, hC⟩ := Kd.R_reads hR; have C2 := Aside0.mk hC; clear hR hC; have n3 := Aside0.mk (blk_below K3.out hbz); have n8 := Aside0.mk (blk_below K8.out hbz); have n9 := Aside0.mk (blk_below K9.out hbz); have nC := Aside0.mk (Kd.C_below C1.out hbz); clear K3 K4 K8 K9 C1 u0 x0 x1 x2 x3 x4 x5 x6 x7 x8 x9 x10 x11 x12; have K3 := n3; have K8 := n8; have K9 := n9; have C1 := nC; clear n3 n8 n9 nC; have HBn := Aside0.mk (below_step (by repeat (first | (with_reducible first | exact HB.out | apply below_alloc | apply pw_below_drewN | apply below_drew1) | exact HB.out)) hbz); clear HB; have HB := HBn; clear HBn; clear hbz))
    have n3 : Aside0 ((World.heap ((w2.alloc (.cells #[.int .u16 r0, .int .u16 r1, .int .u16 r2, .int .i64 r3, .int .i64 r4, .int .i64 r5, .int .i64 r6, .bool r7, .int .u16 r8, .bool r9, .int .u16 r10, .bool r11, .bool r12] 26)).alloc (.cells #[.int .u16 r13] 28)))[w.heap.size]? = some (.cells #[.int .u16 a, .int .u16 l, .int .u16 q, .int .i64 z, .int .i64 eb, .int .i64 fb, .int .i64 su, .bool ext, .int .u16 idx, .bool held, .int .u16 b, .bool inh, .bool srv] 26 (0, 0))) := ⟨blk_alloc (blk_alloc K3.out _) _⟩
    have n8 : Aside0 ((World.heap ((w2.alloc (.cells #[.int .u16 r0, .int .u16 r1, .int .u16 r2, .int .i64 r3, .int .i64 r4, .int .i64 r5, .int .i64 r6, .bool r7, .int .u16 r8, .bool r9, .int .u16 r10, .bool r11, .bool r12] 26)).alloc (.cells #[.int .u16 r13] 28)))[b8]? = some (.cells #[.int .u16 r0, .int .u16 r1, .int .u16 r2, .int .i64 r3, .int .i64 r4, .int .i64 r5, .int .i64 r6, .bool r7, .int .u16 r8, .bool r9, .int .u16 r10, .bool r11, .bool r12] 26 (0, 0))) := ⟨blk_alloc (blk_alloc K8.out _) _⟩
    have n9 : Aside0 ((World.heap ((w2.alloc (.cells #[.int .u16 r0, .int .u16 r1, .int .u16 r2, .int .i64 r3, .int .i64 r4, .int .i64 r5, .int .i64 r6, .bool r7, .int .u16 r8, .bool r9, .int .u16 r10, .bool r11, .bool r12] 26)).alloc (.cells #[.int .u16 r13] 28)))[b8 + 1]? = some (.cells #[.int .u16 r13] 28 (0, 0))) := ⟨blk_alloc (blk_alloc K9.out _) _⟩
    have m8 : Aside0 ((World.heap ((w2.alloc (.cells #[.int .u16 r0, .int .u16 r1, .int .u16 r2, .int .i64 r3, .int .i64 r4, .int .i64 r5, .int .i64 r6, .bool r7, .int .u16 r8, .bool r9, .int .u16 r10, .bool r11, .bool r12] 26)).alloc (.cells #[.int .u16 r13] 28)))[w2.heap.size]? = some (.cells #[.int .u16 r0, .int .u16 r1, .int .u16 r2, .int .i64 r3, .int .i64 r4, .int .i64 r5, .int .i64 r6, .bool r7, .int .u16 r8, .bool r9, .int .u16 r10, .bool r11, .bool r12] 26 (0, 0))) := ⟨blk_alloc (blk_new w2 _) _⟩
    have m9 : Aside0 ((World.heap ((w2.alloc (.cells #[.int .u16 r0, .int .u16 r1, .int .u16 r2, .int .i64 r3, .int .i64 r4, .int .i64 r5, .int .i64 r6, .bool r7, .int .u16 r8, .bool r9, .int .u16 r10, .bool r11, .bool r12] 26)).alloc (.cells #[.int .u16 r13] 28)))[w2.heap.size + 1]? = some (.cells #[.int .u16 r13] 28 (0, 0))) := ⟨(by have h := blk_new (w2.alloc (.cells #[.int .u16 r0, .int .u16 r1, .int .u16 r2, .int .i64 r3, .int .i64 r4, .int .i64 r5, .int .i64 r6, .bool r7, .int .u16 r8, .bool r9, .int .u16 r10, .bool r11, .bool r12] 26)) (.cells #[.int .u16 r13] 28); rw [World.size_alloc] at h; exact h)⟩
    have nC : Aside0 (Kd.C k49 ((w2.alloc (.cells #[.int .u16 r0, .int .u16 r1, .int .u16 r2, .int .i64 r3, .int .i64 r4, .int .i64 r5, .int .i64 r6, .bool r7, .int .u16 r8, .bool r9, .int .u16 r10, .bool r11, .bool r12] 26)).alloc (.cells #[.int .u16 r13] 28)) A1 r14.length r14) := ⟨Kd.C_alloc (Kd.C_alloc C1.out _) _⟩
    have nD : Aside0 (Kd.C k49 ((w2.alloc (.cells #[.int .u16 r0, .int .u16 r1, .int .u16 r2, .int .i64 r3, .int .i64 r4, .int .i64 r5, .int .i64 r6, .bool r7, .int .u16 r8, .bool r9, .int .u16 r10, .bool r11, .bool r12] 26)).alloc (.cells #[.int .u16 r13] 28)) A2 r14.length r14) := ⟨Kd.C_alloc (Kd.C_alloc C2.out _) _⟩
    have nB : Aside0 (Below w.heap.size w ((w2.alloc (.cells #[.int .u16 r0, .int .u16 r1, .int .u16 r2, .int .i64 r3, .int .i64 r4, .int .i64 r5, .int .i64 r6, .bool r7, .int .u16 r8, .bool r9, .int .u16 r10, .bool r11, .bool r12] 26)).alloc (.cells #[.int .u16 r13] 28))) := ⟨below_alloc (below_alloc HB.out _) _⟩
    clear K3 K8 K9 C1 C2 HB EP ER
    generalize (w2.alloc (.cells #[.int .u16 r0, .int .u16 r1, .int .u16 r2, .int .i64 r3, .int .i64 r4, .int .i64 r5, .int .i64 r6, .bool r7, .int .u16 r8, .bool r9, .int .u16 r10, .bool r11, .bool r12] 26)).alloc (.cells #[.int .u16 r13] 28) = wr at n3 n8 n9 m8 m9 nC nD nB ⊢
    obtain ⟨b13, hb13⟩ : ∃ x, w2.heap.size = x := ⟨_, rfl⟩
    rw [hb13] at m8 m9 ⊢
    clear hb13
    obtain ⟨b3, hb3⟩ : ∃ x, w.heap.size = x := ⟨_, rfl⟩
    rw [hb3] at n3 ⊢
    replace hb3 := Lib.hid hb3
    have C1 := nC
    have C2 := nD
    have HB := nB
    clear nC nD nB
    have y0 : wr.cell? ⟨b8, 0, none⟩ = some (.int .u16 r0) := (blk_cell n8.out 0).trans rfl
    have y1 : wr.cell? ⟨b8, 1, none⟩ = some (.int .u16 r1) := (blk_cell n8.out 1).trans rfl
    have y2 : wr.cell? ⟨b8, 2, none⟩ = some (.int .u16 r2) := (blk_cell n8.out 2).trans rfl
    have y3 : wr.cell? ⟨b8, 3, none⟩ = some (.int .i64 r3) := (blk_cell n8.out 3).trans rfl
    have y4 : wr.cell? ⟨b8, 4, none⟩ = some (.int .i64 r4) := (blk_cell n8.out 4).trans rfl
    have y5 : wr.cell? ⟨b8, 5, none⟩ = some (.int .i64 r5) := (blk_cell n8.out 5).trans rfl
    have y6 : wr.cell? ⟨b8, 6, none⟩ = some (.int .i64 r6) := (blk_cell n8.out 6).trans rfl
    have y7 : wr.cell? ⟨b8, 7, none⟩ = some (.bool r7) := (blk_cell n8.out 7).trans rfl
    have y8 : wr.cell? ⟨b8, 8, none⟩ = some (.int .u16 r8) := (blk_cell n8.out 8).trans rfl
    have y9 : wr.cell? ⟨b8, 9, none⟩ = some (.bool r9) := (blk_cell n8.out 9).trans rfl
    have y10 : wr.cell? ⟨b8, 10, none⟩ = some (.int .u16 r10) := (blk_cell n8.out 10).trans rfl
    have y11 : wr.cell? ⟨b8, 11, none⟩ = some (.bool r11) := (blk_cell n8.out 11).trans rfl
    have y12 : wr.cell? ⟨b8, 12, none⟩ = some (.bool r12) := (blk_cell n8.out 12).trans rfl
    have z0 : wr.cell? ⟨b13, 0, none⟩ = some (.int .u16 r0) := (blk_cell m8.out 0).trans rfl
    have z1 : wr.cell? ⟨b13, 1, none⟩ = some (.int .u16 r1) := (blk_cell m8.out 1).trans rfl
    have z2 : wr.cell? ⟨b13, 2, none⟩ = some (.int .u16 r2) := (blk_cell m8.out 2).trans rfl
    have z3 : wr.cell? ⟨b13, 3, none⟩ = some (.int .i64 r3) := (blk_cell m8.out 3).trans rfl
    have z4 : wr.cell? ⟨b13, 4, none⟩ = some (.int .i64 r4) := (blk_cell m8.out 4).trans rfl
    have z5 : wr.cell? ⟨b13, 5, none⟩ = some (.int .i64 r5) := (blk_cell m8.out 5).trans rfl
    have z6 : wr.cell? ⟨b13, 6, none⟩ = some (.int .i64 r6) := (blk_cell m8.out 6).trans rfl
    have z7 : wr.cell? ⟨b13, 7, none⟩ = some (.bool r7) := (blk_cell m8.out 7).trans rfl
    have z8 : wr.cell? ⟨b13, 8, none⟩ = some (.int .u16 r8) := (blk_cell m8.out 8).trans rfl
    have z9 : wr.cell? ⟨b13, 9, none⟩ = some (.bool r9) := (blk_cell m8.out 9).trans rfl
    have z10 : wr.cell? ⟨b13, 10, none⟩ = some (.int .u16 r10) := (blk_cell m8.out 10).trans rfl
    have z11 : wr.cell? ⟨b13, 11, none⟩ = some (.bool r11) := (blk_cell m8.out 11).trans rfl
    have z12 : wr.cell? ⟨b13, 12, none⟩ = some (.bool r12) := (blk_cell m8.out 12).trans rfl
    have u9 : wr.cell? ⟨b8 + 1, 0, none⟩ = some (.int .u16 r13) := (blk_cell n9.out 0).trans rfl
    have u14 : wr.cell? ⟨b13 + 1, 0, none⟩ = some (.int .u16 r13) := (blk_cell m9.out 0).trans rfl
    have x0 : wr.cell? ⟨b3, 0, none⟩ = some (.int .u16 a) := (blk_cell n3.out 0).trans rfl
    have x1 : wr.cell? ⟨b3, 1, none⟩ = some (.int .u16 l) := (blk_cell n3.out 1).trans rfl
    have x2 : wr.cell? ⟨b3, 2, none⟩ = some (.int .u16 q) := (blk_cell n3.out 2).trans rfl
    have x3 : wr.cell? ⟨b3, 3, none⟩ = some (.int .i64 z) := (blk_cell n3.out 3).trans rfl
    have x4 : wr.cell? ⟨b3, 4, none⟩ = some (.int .i64 eb) := (blk_cell n3.out 4).trans rfl
    have x5 : wr.cell? ⟨b3, 5, none⟩ = some (.int .i64 fb) := (blk_cell n3.out 5).trans rfl
    have x6 : wr.cell? ⟨b3, 6, none⟩ = some (.int .i64 su) := (blk_cell n3.out 6).trans rfl
    have x7 : wr.cell? ⟨b3, 7, none⟩ = some (.bool ext) := (blk_cell n3.out 7).trans rfl
    have x8 : wr.cell? ⟨b3, 8, none⟩ = some (.int .u16 idx) := (blk_cell n3.out 8).trans rfl
    have x9 : wr.cell? ⟨b3, 9, none⟩ = some (.bool held) := (blk_cell n3.out 9).trans rfl
    have x10 : wr.cell? ⟨b3, 10, none⟩ = some (.int .u16 b) := (blk_cell n3.out 10).trans rfl
    have x11 : wr.cell? ⟨b3, 11, none⟩ = some (.bool inh) := (blk_cell n3.out 11).trans rfl
    have x12 : wr.cell? ⟨b3, 12, none⟩ = some (.bool srv) := (blk_cell n3.out 12).trans rfl
    clear n3 n8 n9 m8 m9
    refine start_ (n := 36) (S := fun w' => w'.cell? ⟨b8, 0, none⟩ = some (.int .u16 r0) ∧ w'.cell? ⟨b8, 1, none⟩ = some (.int .u16 r1) ∧ w'.cell? ⟨b8, 2, none⟩ = some (.int .u16 r2) ∧ w'.cell? ⟨b8, 3, none⟩ = some (.int .i64 r3) ∧ w'.cell? ⟨b8, 4, none⟩ = some (.int .i64 r4) ∧ w'.cell? ⟨b8, 5, none⟩ = some (.int .i64 r5) ∧ w'.cell? ⟨b8, 6, none⟩ = some (.int .i64 r6) ∧ w'.cell? ⟨b8, 7, none⟩ = some (.bool r7) ∧ w'.cell? ⟨b8, 8, none⟩ = some (.int .u16 r8) ∧ w'.cell? ⟨b8, 9, none⟩ = some (.bool r9) ∧ w'.cell? ⟨b8, 10, none⟩ = some (.int .u16 r10) ∧ w'.cell? ⟨b8, 11, none⟩ = some (.bool r11) ∧ w'.cell? ⟨b8, 12, none⟩ = some (.bool r12) ∧ w'.cell? ⟨b13, 0, none⟩ = some (.int .u16 r0) ∧ w'.cell? ⟨b13, 1, none⟩ = some (.int .u16 r1) ∧ w'.cell? ⟨b13, 2, none⟩ = some (.int .u16 r2) ∧ w'.cell? ⟨b13, 3, none⟩ = some (.int .i64 r3) ∧ w'.cell? ⟨b13, 4, none⟩ = some (.int .i64 r4) ∧ w'.cell? ⟨b13, 5, none⟩ = some (.int .i64 r5) ∧ w'.cell? ⟨b13, 6, none⟩ = some (.int .i64 r6) ∧ w'.cell? ⟨b13, 7, none⟩ = some (.bool r7) ∧ w'.cell? ⟨b13, 8, none⟩ = some (.int .u16 r8) ∧ w'.cell? ⟨b13, 9, none⟩ = some (.bool r9) ∧ w'.cell? ⟨b13, 10, none⟩ = some (.int .u16 r10) ∧ w'.cell? ⟨b13, 11, none⟩ = some (.bool r11) ∧ w'.cell? ⟨b13, 12, none⟩ = some (.bool r12) ∧ w'.cell? ⟨b8 + 1, 0, none⟩ = some (.int .u16 r13) ∧ w'.cell? ⟨b13 + 1, 0, none⟩ = some (.int .u16 r13) ∧ w'.cell? ⟨b3, 0, none⟩ = some (.int .u16 a) ∧ w'.cell? ⟨b3, 1, none⟩ = some (.int .u16 l) ∧ w'.cell? ⟨b3, 2, none⟩ = some (.int .u16 q) ∧ w'.cell? ⟨b3, 3, none⟩ = some (.int .i64 z) ∧ w'.cell? ⟨b3, 4, none⟩ = some (.int .i64 eb) ∧ w'.cell? ⟨b3, 5, none⟩ = some (.int .i64 fb) ∧ w'.cell? ⟨b3, 6, none⟩ = some (.int .i64 su) ∧ w'.cell? ⟨b3, 7, none⟩ = some (.bool ext) ∧ w'.cell? ⟨b3, 8, none⟩ = some (.int .u16 idx) ∧ w'.cell? ⟨b3, 9, none⟩ = some (.bool held) ∧ w'.cell? ⟨b3, 10, none⟩ = some (.int .u16 b) ∧ w'.cell? ⟨b3, 11, none⟩ = some (.bool inh) ∧ w'.cell? ⟨b3, 12, none⟩ = some (.bool srv)) (ds := []) #[false, false, false, false, false, false, false, false, false, false, false, false, false, false, false, false, false, false, false, false, false, false, false, false, false, false, false, false, false, false, false, false, false, false, false, false] (by kernel_rfl) rfl rfl ⟨y0, y1, y2, y3, y4, y5, y6, y7, y8, y9, y10, y11, y12, z0, z1, z2, z3, z4, z5, z6, z7, z8, z9, z10, z11, z12, u9, u14, x0, x1, x2, x3, x4, x5, x6, x7, x8, x9, x10, x11, x12⟩ (fun hHeld => ?_)
    replace C1 : Aside0 (Kd.C k49 wr.drew A1 r14.length r14) := ⟨Kd.C_drew C1.out⟩
    replace C2 : Aside0 (Kd.C k49 wr.drew A2 r14.length r14) := ⟨Kd.C_drew C2.out⟩
    replace HB : Aside0 (Below w.heap.size w wr.drew) := ⟨below_drew1 HB.out⟩
    change wr.drew.cell? _ = _ at y0
    change wr.drew.cell? _ = _ at y1
    change wr.drew.cell? _ = _ at y2
    change wr.drew.cell? _ = _ at y3
    change wr.drew.cell? _ = _ at y4
    change wr.drew.cell? _ = _ at y5
    change wr.drew.cell? _ = _ at y6
    change wr.drew.cell? _ = _ at y7
    change wr.drew.cell? _ = _ at y8
    change wr.drew.cell? _ = _ at y9
    change wr.drew.cell? _ = _ at y10
    change wr.drew.cell? _ = _ at y11
    change wr.drew.cell? _ = _ at y12
    change wr.drew.cell? _ = _ at z0
    change wr.drew.cell? _ = _ at z1
    change wr.drew.cell? _ = _ at z2
    change wr.drew.cell? _ = _ at z3
    change wr.drew.cell? _ = _ at z4
    change wr.drew.cell? _ = _ at z5
    change wr.drew.cell? _ = _ at z6
    change wr.drew.cell? _ = _ at z7
    change wr.drew.cell? _ = _ at z8
    change wr.drew.cell? _ = _ at z9
    change wr.drew.cell? _ = _ at z10
    change wr.drew.cell? _ = _ at z11
    change wr.drew.cell? _ = _ at z12
    change wr.drew.cell? _ = _ at u9
    change wr.drew.cell? _ = _ at u14
    change wr.drew.cell? _ = _ at x0
    change wr.drew.cell? _ = _ at x1
    change wr.drew.cell? _ = _ at x2
    change wr.drew.cell? _ = _ at x3
    change wr.drew.cell? _ = _ at x4
    change wr.drew.cell? _ = _ at x5
    change wr.drew.cell? _ = _ at x6
    change wr.drew.cell? _ = _ at x7
    change wr.drew.cell? _ = _ at x8
    change wr.drew.cell? _ = _ at x9
    change wr.drew.cell? _ = _ at x10
    change wr.drew.cell? _ = _ at x11
    change wr.drew.cell? _ = _ at x12
    generalize wr.drew = wd at C1 C2 HB y0 y1 y2 y3 y4 y5 y6 y7 y8 y9 y10 y11 y12 z0 z1 z2 z3 z4 z5 z6 z7 z8 z9 z10 z11 z12 u9 u14 x0 x1 x2 x3 x4 x5 x6 x7 x8 x9 x10 x11 x12 hHeld ⊢
    refine take_ (i := 0) (N := some 44) (v := ?_) (a' := ?_) #[true, false, false, false, false, false, false, false, false, false, false, false, false, false, false, false, false, false, false, false, false, false, false, false, false, false, false, false, false, false, false, false, false, false, false, false] rfl rfl (by kernel_rfl) (fun _ _ _ h => h) (Or.inl ⟨by rfl, ?_⟩) hHeld ?_ ?_
    rotate_left
    · rintro w' ⟨s0, s1, s2, s3, s4, s5, s6, s7, s8, s9, s10, s11, s12, s13, s14, s15, s16, s17, s18, s19, s20, s21, s22, s23, s24, s25, s26, s27, s28, s29, s30, s31, s32, s33, s34, s35, s36, s37, s38, s39, s40⟩
      go_simp
      with_reducible rfl
    rotate_left
    · simp only [Act.put, List.setIfInBounds_toArray, List.set_cons_zero, List.set_cons_succ, i64_w, i32_w]
      rfl
    refine take_ (i := 1) (N := some 45) (v := ?_) (a' := ?_) #[true, true, false, false, false, false, false, false, false, false, false, false, false, false, false, false, false, false, false, false, false, false, false, false, false, false, false, false, false, false, false, false, false, false, false, false] rfl rfl (by kernel_rfl) (fun _ _ _ h => h) (Or.inl ⟨by rfl, ?_⟩) hHeld ?_ ?_
    rotate_left
    · rintro w' ⟨s0, s1, s2, s3, s4, s5, s6, s7, s8, s9, s10, s11, s12, s13, s14, s15, s16, s17, s18, s19, s20, s21, s22, s23, s24, s25, s26, s27, s28, s29, s30, s31, s32, s33, s34, s35, s36, s37, s38, s39, s40⟩
      go_simp
      with_reducible rfl
    rotate_left
    · simp only [Act.put, List.setIfInBounds_toArray, List.set_cons_zero, List.set_cons_succ, i64_w, i32_w]
      rfl
    refine pure_ (i := 2) (N := some 46) (v := ?_) (a' := ?_) #[true, true, true, false, false, false, false, false, false, false, false, false, false, false, false, false, false, false, false, false, false, false, false, false, false, false, false, false, false, false, false, false, false, false, false, false] rfl rfl (by kernel_rfl) (fun _ _ _ h => h) (Or.inl ⟨by rfl, ?_⟩) ?_ ?_
    rotate_left
    · intro w'
      go_simp
      with_reducible rfl
    rotate_left
    · simp only [Act.put, List.setIfInBounds_toArray, List.set_cons_zero, List.set_cons_succ, i64_w, i32_w]
      rfl
    refine pure_ (i := 3) (N := some 47) (v := ?_) (a' := ?_) #[true, true, true, true, false, false, false, false, false, false, false, false, false, false, false, false, false, false, false, false, false, false, false, false, false, false, false, false, false, false, false, false, false, false, false, false] rfl rfl (by kernel_rfl) (fun _ _ _ h => h) (Or.inl ⟨by rfl, ?_⟩) ?_ ?_
    rotate_left
    · intro w'
      go_simp
      with_reducible rfl
    rotate_left
    · simp only [Act.put, List.setIfInBounds_toArray, List.set_cons_zero, List.set_cons_succ, i64_w, i32_w]
      rfl
    refine take_ (i := 4) (N := some 48) (v := ?_) (a' := ?_) #[true, true, true, true, true, false, false, false, false, false, false, false, false, false, false, false, false, false, false, false, false, false, false, false, false, false, false, false, false, false, false, false, false, false, false, false] rfl rfl (by kernel_rfl) (fun _ _ _ h => h) (Or.inl ⟨by rfl, ?_⟩) hHeld ?_ ?_
    rotate_left
    · rintro w' ⟨s0, s1, s2, s3, s4, s5, s6, s7, s8, s9, s10, s11, s12, s13, s14, s15, s16, s17, s18, s19, s20, s21, s22, s23, s24, s25, s26, s27, s28, s29, s30, s31, s32, s33, s34, s35, s36, s37, s38, s39, s40⟩
      go_simp
      with_reducible rfl
    rotate_left
    · simp only [Act.put, List.setIfInBounds_toArray, List.set_cons_zero, List.set_cons_succ, i64_w, i32_w]
      rfl
    refine take_ (i := 5) (N := some 49) (v := ?_) (a' := ?_) #[true, true, true, true, true, true, false, false, false, false, false, false, false, false, false, false, false, false, false, false, false, false, false, false, false, false, false, false, false, false, false, false, false, false, false, false] rfl rfl (by kernel_rfl) (fun _ _ _ h => h) (Or.inl ⟨by rfl, ?_⟩) hHeld ?_ ?_
    rotate_left
    · rintro w' ⟨s0, s1, s2, s3, s4, s5, s6, s7, s8, s9, s10, s11, s12, s13, s14, s15, s16, s17, s18, s19, s20, s21, s22, s23, s24, s25, s26, s27, s28, s29, s30, s31, s32, s33, s34, s35, s36, s37, s38, s39, s40⟩
      go_simp
      with_reducible rfl
    rotate_left
    · simp only [Act.put, List.setIfInBounds_toArray, List.set_cons_zero, List.set_cons_succ, i64_w, i32_w]
      rfl
    refine pure_ (i := 6) (N := some 50) (v := ?_) (a' := ?_) #[true, true, true, true, true, true, true, false, false, false, false, false, false, false, false, false, false, false, false, false, false, false, false, false, false, false, false, false, false, false, false, false, false, false, false, false] rfl rfl (by kernel_rfl) (fun _ _ _ h => h) (Or.inl ⟨by rfl, ?_⟩) ?_ ?_
    rotate_left
    · intro w'
      go_simp
      with_reducible rfl
    rotate_left
    · simp only [Act.put, List.setIfInBounds_toArray, List.set_cons_zero, List.set_cons_succ, i64_w, i32_w]
      rfl
    refine pure_ (i := 7) (N := some 51) (v := ?_) (a' := ?_) #[true, true, true, true, true, true, true, true, false, false, false, false, false, false, false, false, false, false, false, false, false, false, false, false, false, false, false, false, false, false, false, false, false, false, false, false] rfl rfl (by kernel_rfl) (fun _ _ _ h => h) (Or.inl ⟨by rfl, ?_⟩) ?_ ?_
    rotate_left
    · intro w'
      go_simp
      with_reducible rfl
    rotate_left
    · simp only [Act.put, List.setIfInBounds_toArray, List.set_cons_zero, List.set_cons_succ, i64_w, i32_w]
      rfl
    refine pure_ (i := 8) (N := some 52) (v := ?_) (a' := ?_) #[true, true, true, true, true, true, true, true, true, false, false, false, false, false, false, false, false, false, false, false, false, false, false, false, false, false, false, false, false, false, false, false, false, false, false, false] rfl rfl (by kernel_rfl) (fun _ _ _ h => h) (Or.inl ⟨by rfl, ?_⟩) ?_ ?_
    rotate_left
    · intro w'
      go_simp
      with_reducible rfl
    rotate_left
    · simp only [Act.put, List.setIfInBounds_toArray, List.set_cons_zero, List.set_cons_succ, i64_w, i32_w]
      rfl
    refine pure_ (i := 9) (N := some 53) (v := ?_) (a' := ?_) #[true, true, true, true, true, true, true, true, true, true, false, false, false, false, false, false, false, false, false, false, false, false, false, false, false, false, false, false, false, false, false, false, false, false, false, false] rfl rfl (by kernel_rfl) (fun _ _ _ h => h) (Or.inl ⟨by rfl, ?_⟩) ?_ ?_
    rotate_left
    · intro w'
      go_simp
      with_reducible rfl
    rotate_left
    · simp only [Act.put, List.setIfInBounds_toArray, List.set_cons_zero, List.set_cons_succ, i64_w, i32_w]
      rfl
    refine pure_ (i := 10) (N := some 54) (v := ?_) (a' := ?_) #[true, true, true, true, true, true, true, true, true, true, true, false, false, false, false, false, false, false, false, false, false, false, false, false, false, false, false, false, false, false, false, false, false, false, false, false] rfl rfl (by kernel_rfl) (fun _ _ _ h => h) (Or.inl ⟨by rfl, ?_⟩) ?_ ?_
    rotate_left
    · intro w'
      go_simp
      with_reducible rfl
    rotate_left
    · simp only [Act.put, List.setIfInBounds_toArray, List.set_cons_zero, List.set_cons_succ, i64_w, i32_w]
      rfl
    refine one_ (i := 11) (N := some 55) #[true, true, true, true, true, true, true, true, true, true, true, true, false, false, false, false, false, false, false, false, false, false, false, false, false, false, false, false, false, false, false, false, false, false, false, false] rfl rfl (by kernel_rfl) (by decide) (fun K hK => ?_)
    refine goes_ Try.func10 (by kernel_rfl) rfl #[.slice A1 r14.length c1, .slice A2 r14.length c2] (by rfl) rfl rfl (by simp only [List.map_toArray, List.map_cons, List.map_nil]; rfl) ?_
    with_reducible refine (periluneref05_Cells.calls 20 A1 c1 r14 A2 c2 r14 true _ C1.out hc1 C2.out hc2 CQ.out).mono ?_
    rintro e w3 ⟨rfl, ⟨nd, hd⟩⟩
    refine ⟨_, rfl, ?_⟩
    have hbz := drawn_below hd
    clear C1 C2 hd
    replace y0 := (hbz.cell (World.block_lt_of_cell? _ _ y0)).trans y0
    replace y1 := (hbz.cell (World.block_lt_of_cell? _ _ y1)).trans y1
    replace y2 := (hbz.cell (World.block_lt_of_cell? _ _ y2)).trans y2
    replace y3 := (hbz.cell (World.block_lt_of_cell? _ _ y3)).trans y3
    replace y4 := (hbz.cell (World.block_lt_of_cell? _ _ y4)).trans y4
    replace y5 := (hbz.cell (World.block_lt_of_cell? _ _ y5)).trans y5
    replace y6 := (hbz.cell (World.block_lt_of_cell? _ _ y6)).trans y6
    replace y7 := (hbz.cell (World.block_lt_of_cell? _ _ y7)).trans y7
    replace y8 := (hbz.cell (World.block_lt_of_cell? _ _ y8)).trans y8
    replace y9 := (hbz.cell (World.block_lt_of_cell? _ _ y9)).trans y9
    replace y10 := (hbz.cell (World.block_lt_of_cell? _ _ y10)).trans y10
    replace y11 := (hbz.cell (World.block_lt_of_cell? _ _ y11)).trans y11
    replace y12 := (hbz.cell (World.block_lt_of_cell? _ _ y12)).trans y12
    replace z0 := (hbz.cell (World.block_lt_of_cell? _ _ z0)).trans z0
    replace z1 := (hbz.cell (World.block_lt_of_cell? _ _ z1)).trans z1
    replace z2 := (hbz.cell (World.block_lt_of_cell? _ _ z2)).trans z2
    replace z3 := (hbz.cell (World.block_lt_of_cell? _ _ z3)).trans z3
    replace z4 := (hbz.cell (World.block_lt_of_cell? _ _ z4)).trans z4
    replace z5 := (hbz.cell (World.block_lt_of_cell? _ _ z5)).trans z5
    replace z6 := (hbz.cell (World.block_lt_of_cell? _ _ z6)).trans z6
    replace z7 := (hbz.cell (World.block_lt_of_cell? _ _ z7)).trans z7
    replace z8 := (hbz.cell (World.block_lt_of_cell? _ _ z8)).trans z8
    replace z9 := (hbz.cell (World.block_lt_of_cell? _ _ z9)).trans z9
    replace z10 := (hbz.cell (World.block_lt_of_cell? _ _ z10)).trans z10
    replace z11 := (hbz.cell (World.block_lt_of_cell? _ _ z11)).trans z11
    replace z12 := (hbz.cell (World.block_lt_of_cell? _ _ z12)).trans z12
    replace u9 := (hbz.cell (World.block_lt_of_cell? _ _ u9)).trans u9
    replace u14 := (hbz.cell (World.block_lt_of_cell? _ _ u14)).trans u14
    replace x0 := (hbz.cell (World.block_lt_of_cell? _ _ x0)).trans x0
    replace x1 := (hbz.cell (World.block_lt_of_cell? _ _ x1)).trans x1
    replace x2 := (hbz.cell (World.block_lt_of_cell? _ _ x2)).trans x2
    replace x3 := (hbz.cell (World.block_lt_of_cell? _ _ x3)).trans x3
    replace x4 := (hbz.cell (World.block_lt_of_cell? _ _ x4)).trans x4
    replace x5 := (hbz.cell (World.block_lt_of_cell? _ _ x5)).trans x5
    replace x6 := (hbz.cell (World.block_lt_of_cell? _ _ x6)).trans x6
    replace x7 := (hbz.cell (World.block_lt_of_cell? _ _ x7)).trans x7
    replace x8 := (hbz.cell (World.block_lt_of_cell? _ _ x8)).trans x8
    replace x9 := (hbz.cell (World.block_lt_of_cell? _ _ x9)).trans x9
    replace x10 := (hbz.cell (World.block_lt_of_cell? _ _ x10)).trans x10
    replace x11 := (hbz.cell (World.block_lt_of_cell? _ _ x11)).trans x11
    replace x12 := (hbz.cell (World.block_lt_of_cell? _ _ x12)).trans x12
    have HBn := Aside0.mk (below_step (by repeat (first | (with_reducible first | exact HB.out | apply below_alloc | apply pw_below_drewN | apply below_drew1) | exact HB.out)) hbz)
    clear HB
    have HB := HBn
    clear HBn
    clear hbz
    refine hK.out _ _ ⟨y0, y1, y2, y3, y4, y5, y6, y7, y8, y9, y10, y11, y12, z0, z1, z2, z3, z4, z5, z6, z7, z8, z9, z10, z11, z12, u9, u14, x0, x1, x2, x3, x4, x5, x6, x7, x8, x9, x10, x11, x12⟩ (fun hHeld => ?_)
    clear hK K
    refine norm_ (a' := ?_) ?_ ?_
    rotate_left
    · show Act.put _ (some 55) _ = _
      simp only [Act.put, List.setIfInBounds_toArray, List.set_cons_zero, List.set_cons_succ, i64_w, i32_w]
      rfl
    refine pure_ (i := 12) (N := some 56) (v := ?_) (a' := ?_) #[true, true, true, true, true, true, true, true, true, true, true, true, true, false, false, false, false, false, false, false, false, false, false, false, false, false, false, false, false, false, false, false, false, false, false, false] rfl rfl (by kernel_rfl) (fun _ _ _ h => h) (Or.inl ⟨by rfl, ?_⟩) ?_ ?_
    rotate_left
    · intro w'
      go_simp
      with_reducible rfl
    rotate_left
    · simp only [Act.put, List.setIfInBounds_toArray, List.set_cons_zero, List.set_cons_succ, i64_w, i32_w]
      rfl
    refine pure_ (i := 13) (N := some 57) (v := ?_) (a' := ?_) #[true, true, true, true, true, true, true, true, true, true, true, true, true, true, false, false, false, false, false, false, false, false, false, false, false, false, false, false, false, false, false, false, false, false, false, false] rfl rfl (by kernel_rfl) (fun _ _ _ h => h) (Or.inl ⟨by rfl, ?_⟩) ?_ ?_
    rotate_left
    · intro w'
      go_simp
      with_reducible rfl
    rotate_left
    · simp only [Act.put, List.setIfInBounds_toArray, List.set_cons_zero, List.set_cons_succ, i64_w, i32_w]
      rfl
    refine pure_ (i := 14) (N := some 58) (v := ?_) (a' := ?_) #[true, true, true, true, true, true, true, true, true, true, true, true, true, true, true, false, false, false, false, false, false, false, false, false, false, false, false, false, false, false, false, false, false, false, false, false] rfl rfl (by kernel_rfl) (fun _ _ _ h => h) (Or.inl ⟨by rfl, ?_⟩) ?_ ?_
    rotate_left
    · intro w'
      go_simp
      with_reducible rfl
    rotate_left
    · simp only [Act.put, List.setIfInBounds_toArray, List.set_cons_zero, List.set_cons_succ, i64_w, i32_w]
      rfl
    refine pure_ (i := 15) (N := some 59) (v := ?_) (a' := ?_) #[true, true, true, true, true, true, true, true, true, true, true, true, true, true, true, true, false, false, false, false, false, false, false, false, false, false, false, false, false, false, false, false, false, false, false, false] rfl rfl (by kernel_rfl) (fun _ _ _ h => h) (Or.inl ⟨by rfl, ?_⟩) ?_ ?_
    rotate_left
    · intro w'
      go_simp
      with_reducible rfl
    rotate_left
    · simp only [Act.put, List.setIfInBounds_toArray, List.set_cons_zero, List.set_cons_succ, i64_w, i32_w]
      rfl
    refine pure_ (i := 16) (N := some 60) (v := ?_) (a' := ?_) #[true, true, true, true, true, true, true, true, true, true, true, true, true, true, true, true, true, false, false, false, false, false, false, false, false, false, false, false, false, false, false, false, false, false, false, false] rfl rfl (by kernel_rfl) (fun _ _ _ h => h) (Or.inl ⟨by rfl, ?_⟩) ?_ ?_
    rotate_left
    · intro w'
      go_simp
      with_reducible rfl
    rotate_left
    · simp only [Act.put, List.setIfInBounds_toArray, List.set_cons_zero, List.set_cons_succ, i64_w, i32_w]
      rfl
    refine pure_ (i := 17) (N := some 61) (v := ?_) (a' := ?_) #[true, true, true, true, true, true, true, true, true, true, true, true, true, true, true, true, true, true, false, false, false, false, false, false, false, false, false, false, false, false, false, false, false, false, false, false] rfl rfl (by kernel_rfl) (fun _ _ _ h => h) (Or.inl ⟨by rfl, ?_⟩) ?_ ?_
    rotate_left
    · intro w'
      go_simp
      with_reducible rfl
    rotate_left
    · simp only [Act.put, List.setIfInBounds_toArray, List.set_cons_zero, List.set_cons_succ, i64_w, i32_w]
      rfl
    refine pure_ (i := 18) (N := some 62) (v := ?_) (a' := ?_) #[true, true, true, true, true, true, true, true, true, true, true, true, true, true, true, true, true, true, true, false, false, false, false, false, false, false, false, false, false, false, false, false, false, false, false, false] rfl rfl (by kernel_rfl) (fun _ _ _ h => h) (Or.inl ⟨by rfl, ?_⟩) ?_ ?_
    rotate_left
    · intro w'
      go_simp
      with_reducible rfl
    rotate_left
    · simp only [Act.put, List.setIfInBounds_toArray, List.set_cons_zero, List.set_cons_succ, i64_w, i32_w]
      rfl
    refine pure_ (i := 19) (N := some 63) (v := ?_) (a' := ?_) #[true, true, true, true, true, true, true, true, true, true, true, true, true, true, true, true, true, true, true, true, false, false, false, false, false, false, false, false, false, false, false, false, false, false, false, false] rfl rfl (by kernel_rfl) (fun _ _ _ h => h) (Or.inl ⟨by rfl, ?_⟩) ?_ ?_
    rotate_left
    · intro w'
      go_simp
      with_reducible rfl
    rotate_left
    · simp only [Act.put, List.setIfInBounds_toArray, List.set_cons_zero, List.set_cons_succ, i64_w, i32_w]
      rfl
    refine pure_ (i := 20) (N := some 64) (v := ?_) (a' := ?_) #[true, true, true, true, true, true, true, true, true, true, true, true, true, true, true, true, true, true, true, true, true, false, false, false, false, false, false, false, false, false, false, false, false, false, false, false] rfl rfl (by kernel_rfl) (fun _ _ _ h => h) (Or.inl ⟨by rfl, ?_⟩) ?_ ?_
    rotate_left
    · intro w'
      go_simp
      with_reducible rfl
    rotate_left
    · simp only [Act.put, List.setIfInBounds_toArray, List.set_cons_zero, List.set_cons_succ, i64_w, i32_w]
      rfl
    refine pure_ (i := 21) (N := some 65) (v := ?_) (a' := ?_) #[true, true, true, true, true, true, true, true, true, true, true, true, true, true, true, true, true, true, true, true, true, true, false, false, false, false, false, false, false, false, false, false, false, false, false, false] rfl rfl (by kernel_rfl) (fun _ _ _ h => h) (Or.inl ⟨by rfl, ?_⟩) ?_ ?_
    rotate_left
    · intro w'
      go_simp
      with_reducible rfl
    rotate_left
    · simp only [Act.put, List.setIfInBounds_toArray, List.set_cons_zero, List.set_cons_succ, i64_w, i32_w]
      rfl
    refine pure_ (i := 22) (N := some 66) (v := ?_) (a' := ?_) #[true, true, true, true, true, true, true, true, true, true, true, true, true, true, true, true, true, true, true, true, true, true, true, false, false, false, false, false, false, false, false, false, false, false, false, false] rfl rfl (by kernel_rfl) (fun _ _ _ h => h) (Or.inl ⟨by rfl, ?_⟩) ?_ ?_
    rotate_left
    · intro w'
      go_simp
      with_reducible rfl
    rotate_left
    · simp only [Act.put, List.setIfInBounds_toArray, List.set_cons_zero, List.set_cons_succ, i64_w, i32_w]
      rfl
    refine pure_ (i := 23) (N := some 67) (v := ?_) (a' := ?_) #[true, true, true, true, true, true, true, true, true, true, true, true, true, true, true, true, true, true, true, true, true, true, true, true, false, false, false, false, false, false, false, false, false, false, false, false] rfl rfl (by kernel_rfl) (fun _ _ _ h => h) (Or.inl ⟨by rfl, ?_⟩) ?_ ?_
    rotate_left
    · intro w'
      go_simp
      with_reducible rfl
    rotate_left
    · simp only [Act.put, List.setIfInBounds_toArray, List.set_cons_zero, List.set_cons_succ, i64_w, i32_w]
      rfl
    refine pure_ (i := 25) (N := some 69) (v := ?_) (a' := ?_) #[true, true, true, true, true, true, true, true, true, true, true, true, true, true, true, true, true, true, true, true, true, true, true, true, false, true, false, false, false, false, false, false, false, false, false, false] rfl rfl (by kernel_rfl) (fun _ _ _ h => h) (Or.inl ⟨by rfl, ?_⟩) ?_ ?_
    rotate_left
    · intro w'
      go_simp
      with_reducible rfl
    rotate_left
    · simp only [Act.put, List.setIfInBounds_toArray, List.set_cons_zero, List.set_cons_succ, i64_w, i32_w]
      rfl
    refine pure_ (i := 28) (N := some 72) (v := ?_) (a' := ?_) #[true, true, true, true, true, true, true, true, true, true, true, true, true, true, true, true, true, true, true, true, true, true, true, true, false, true, false, false, true, false, false, false, false, false, false, false] rfl rfl (by kernel_rfl) (fun _ _ _ h => h) (Or.inl ⟨by rfl, ?_⟩) ?_ ?_
    rotate_left
    · intro w'
      go_simp
      with_reducible rfl
    rotate_left
    · simp only [Act.put, List.setIfInBounds_toArray, List.set_cons_zero, List.set_cons_succ, i64_w, i32_w]
      rfl
    refine take_ (i := 24) (N := some 68) (v := ?_) (a' := ?_) #[true, true, true, true, true, true, true, true, true, true, true, true, true, true, true, true, true, true, true, true, true, true, true, true, true, true, false, false, true, false, false, false, false, false, false, false] rfl rfl (by kernel_rfl) (fun _ _ _ h => h) (Or.inl ⟨by rfl, ?_⟩) hHeld ?_ ?_
    rotate_left
    · rintro w' ⟨s0, s1, s2, s3, s4, s5, s6, s7, s8, s9, s10, s11, s12, s13, s14, s15, s16, s17, s18, s19, s20, s21, s22, s23, s24, s25, s26, s27, s28, s29, s30, s31, s32, s33, s34, s35, s36, s37, s38, s39, s40⟩
      go_simp
      with_reducible rfl
    rotate_left
    · simp only [Act.put, List.setIfInBounds_toArray, List.set_cons_zero, List.set_cons_succ, i64_w, i32_w]
      rfl
    refine take_ (i := 27) (N := some 71) (v := ?_) (a' := ?_) #[true, true, true, true, true, true, true, true, true, true, true, true, true, true, true, true, true, true, true, true, true, true, true, true, true, true, false, true, true, false, false, false, false, false, false, false] rfl rfl (by kernel_rfl) (fun _ _ _ h => h) (Or.inl ⟨by rfl, ?_⟩) hHeld ?_ ?_
    rotate_left
    · rintro w' ⟨s0, s1, s2, s3, s4, s5, s6, s7, s8, s9, s10, s11, s12, s13, s14, s15, s16, s17, s18, s19, s20, s21, s22, s23, s24, s25, s26, s27, s28, s29, s30, s31, s32, s33, s34, s35, s36, s37, s38, s39, s40⟩
      go_simp
      with_reducible rfl
    rotate_left
    · simp only [Act.put, List.setIfInBounds_toArray, List.set_cons_zero, List.set_cons_succ, i64_w, i32_w]
      rfl
    refine one_ (i := 26) (N := some 70) #[true, true, true, true, true, true, true, true, true, true, true, true, true, true, true, true, true, true, true, true, true, true, true, true, true, true, true, true, true, false, false, false, false, false, false, false] rfl rfl (by kernel_rfl) (by decide) (fun K hK => ?_)
    refine goes_ Try.func11 (by kernel_rfl) rfl #[.agg #[.int .u16 a, .int .u16 l, .int .u16 q, .int .i64 z, .int .i64 eb, .int .i64 fb, .int .i64 su, .bool ext, .int .u16 idx, .bool held, .int .u16 b, .bool inh, .bool srv], .slice (some ad) xs.length c0] (by rfl) rfl rfl (by simp only [List.map_toArray, List.map_cons, List.map_nil]; rfl) ?_
    with_reducible refine (LP.out _ (Kd.C_below HR.out HB.out)).mono ?_
    rintro e w4 ⟨rfl, hbz⟩
    refine ⟨_, rfl, ?_⟩
    replace y0 := (hbz.cell (World.block_lt_of_cell? _ _ y0)).trans y0
    replace y1 := (hbz.cell (World.block_lt_of_cell? _ _ y1)).trans y1
    replace y2 := (hbz.cell (World.block_lt_of_cell? _ _ y2)).trans y2
    replace y3 := (hbz.cell (World.block_lt_of_cell? _ _ y3)).trans y3
    replace y4 := (hbz.cell (World.block_lt_of_cell? _ _ y4)).trans y4
    replace y5 := (hbz.cell (World.block_lt_of_cell? _ _ y5)).trans y5
    replace y6 := (hbz.cell (World.block_lt_of_cell? _ _ y6)).trans y6
    replace y7 := (hbz.cell (World.block_lt_of_cell? _ _ y7)).trans y7
    replace y8 := (hbz.cell (World.block_lt_of_cell? _ _ y8)).trans y8
    replace y9 := (hbz.cell (World.block_lt_of_cell? _ _ y9)).trans y9
    replace y10 := (hbz.cell (World.block_lt_of_cell? _ _ y10)).trans y10
    replace y11 := (hbz.cell (World.block_lt_of_cell? _ _ y11)).trans y11
    replace y12 := (hbz.cell (World.block_lt_of_cell? _ _ y12)).trans y12
    replace z0 := (hbz.cell (World.block_lt_of_cell? _ _ z0)).trans z0
    replace z1 := (hbz.cell (World.block_lt_of_cell? _ _ z1)).trans z1
    replace z2 := (hbz.cell (World.block_lt_of_cell? _ _ z2)).trans z2
    replace z3 := (hbz.cell (World.block_lt_of_cell? _ _ z3)).trans z3
    replace z4 := (hbz.cell (World.block_lt_of_cell? _ _ z4)).trans z4
    replace z5 := (hbz.cell (World.block_lt_of_cell? _ _ z5)).trans z5
    replace z6 := (hbz.cell (World.block_lt_of_cell? _ _ z6)).trans z6
    replace z7 := (hbz.cell (World.block_lt_of_cell? _ _ z7)).trans z7
    replace z8 := (hbz.cell (World.block_lt_of_cell? _ _ z8)).trans z8
    replace z9 := (hbz.cell (World.block_lt_of_cell? _ _ z9)).trans z9
    replace z10 := (hbz.cell (World.block_lt_of_cell? _ _ z10)).trans z10
    replace z11 := (hbz.cell (World.block_lt_of_cell? _ _ z11)).trans z11
    replace z12 := (hbz.cell (World.block_lt_of_cell? _ _ z12)).trans z12
    replace u9 := (hbz.cell (World.block_lt_of_cell? _ _ u9)).trans u9
    replace u14 := (hbz.cell (World.block_lt_of_cell? _ _ u14)).trans u14
    replace x0 := (hbz.cell (World.block_lt_of_cell? _ _ x0)).trans x0
    replace x1 := (hbz.cell (World.block_lt_of_cell? _ _ x1)).trans x1
    replace x2 := (hbz.cell (World.block_lt_of_cell? _ _ x2)).trans x2
    replace x3 := (hbz.cell (World.block_lt_of_cell? _ _ x3)).trans x3
    replace x4 := (hbz.cell (World.block_lt_of_cell? _ _ x4)).trans x4
    replace x5 := (hbz.cell (World.block_lt_of_cell? _ _ x5)).trans x5
    replace x6 := (hbz.cell (World.block_lt_of_cell? _ _ x6)).trans x6
    replace x7 := (hbz.cell (World.block_lt_of_cell? _ _ x7)).trans x7
    replace x8 := (hbz.cell (World.block_lt_of_cell? _ _ x8)).trans x8
    replace x9 := (hbz.cell (World.block_lt_of_cell? _ _ x9)).trans x9
    replace x10 := (hbz.cell (World.block_lt_of_cell? _ _ x10)).trans x10
    replace x11 := (hbz.cell (World.block_lt_of_cell? _ _ x11)).trans x11
    replace x12 := (hbz.cell (World.block_lt_of_cell? _ _ x12)).trans x12
    have HBn := Aside0.mk (below_step (by repeat (first | (with_reducible first | exact HB.out | apply below_alloc | apply pw_below_drewN | apply below_drew1) | exact HB.out)) hbz)
    clear HB
    have HB := HBn
    clear HBn
    clear hbz
    refine hK.out _ _ ⟨y0, y1, y2, y3, y4, y5, y6, y7, y8, y9, y10, y11, y12, z0, z1, z2, z3, z4, z5, z6, z7, z8, z9, z10, z11, z12, u9, u14, x0, x1, x2, x3, x4, x5, x6, x7, x8, x9, x10, x11, x12⟩ (fun hHeld => ?_)
    clear hK K
    refine norm_ (a' := ?_) ?_ ?_
    rotate_left
    · show Act.put _ (some 70) _ = _
      simp only [Act.put, List.setIfInBounds_toArray, List.set_cons_zero, List.set_cons_succ, i64_w, i32_w]
      rfl
    refine one_ (i := 29) (N := some 73) #[true, true, true, true, true, true, true, true, true, true, true, true, true, true, true, true, true, true, true, true, true, true, true, true, true, true, true, true, true, true, false, false, false, false, false, false] rfl rfl (by kernel_rfl) (by decide) (fun K hK => ?_)
    refine goes_ Try.func12 (by kernel_rfl) rfl #[.agg #[.int .u16 a, .int .u16 l, .int .u16 q, .int .i64 z, .int .i64 eb, .int .i64 fb, .int .i64 su, .bool ext, .int .u16 idx, .bool held, .int .u16 b, .bool inh, .bool srv], .slice (some ad) xs.length c0] (by rfl) rfl rfl (by simp only [List.map_toArray, List.map_cons, List.map_nil]; rfl) ?_
    with_reducible refine (LR.out _ (Kd.C_below HR.out HB.out)).mono ?_
    rintro e w6 ⟨rfl, hbz⟩
    refine ⟨_, rfl, ?_⟩
    replace y0 := (hbz.cell (World.block_lt_of_cell? _ _ y0)).trans y0
    replace y1 := (hbz.cell (World.block_lt_of_cell? _ _ y1)).trans y1
    replace y2 := (hbz.cell (World.block_lt_of_cell? _ _ y2)).trans y2
    replace y3 := (hbz.cell (World.block_lt_of_cell? _ _ y3)).trans y3
    replace y4 := (hbz.cell (World.block_lt_of_cell? _ _ y4)).trans y4
    replace y5 := (hbz.cell (World.block_lt_of_cell? _ _ y5)).trans y5
    replace y6 := (hbz.cell (World.block_lt_of_cell? _ _ y6)).trans y6
    replace y7 := (hbz.cell (World.block_lt_of_cell? _ _ y7)).trans y7
    replace y8 := (hbz.cell (World.block_lt_of_cell? _ _ y8)).trans y8
    replace y9 := (hbz.cell (World.block_lt_of_cell? _ _ y9)).trans y9
    replace y10 := (hbz.cell (World.block_lt_of_cell? _ _ y10)).trans y10
    replace y11 := (hbz.cell (World.block_lt_of_cell? _ _ y11)).trans y11
    replace y12 := (hbz.cell (World.block_lt_of_cell? _ _ y12)).trans y12
    replace z0 := (hbz.cell (World.block_lt_of_cell? _ _ z0)).trans z0
    replace z1 := (hbz.cell (World.block_lt_of_cell? _ _ z1)).trans z1
    replace z2 := (hbz.cell (World.block_lt_of_cell? _ _ z2)).trans z2
    replace z3 := (hbz.cell (World.block_lt_of_cell? _ _ z3)).trans z3
    replace z4 := (hbz.cell (World.block_lt_of_cell? _ _ z4)).trans z4
    replace z5 := (hbz.cell (World.block_lt_of_cell? _ _ z5)).trans z5
    replace z6 := (hbz.cell (World.block_lt_of_cell? _ _ z6)).trans z6
    replace z7 := (hbz.cell (World.block_lt_of_cell? _ _ z7)).trans z7
    replace z8 := (hbz.cell (World.block_lt_of_cell? _ _ z8)).trans z8
    replace z9 := (hbz.cell (World.block_lt_of_cell? _ _ z9)).trans z9
    replace z10 := (hbz.cell (World.block_lt_of_cell? _ _ z10)).trans z10
    replace z11 := (hbz.cell (World.block_lt_of_cell? _ _ z11)).trans z11
    replace z12 := (hbz.cell (World.block_lt_of_cell? _ _ z12)).trans z12
    replace u9 := (hbz.cell (World.block_lt_of_cell? _ _ u9)).trans u9
    replace u14 := (hbz.cell (World.block_lt_of_cell? _ _ u14)).trans u14
    replace x0 := (hbz.cell (World.block_lt_of_cell? _ _ x0)).trans x0
    replace x1 := (hbz.cell (World.block_lt_of_cell? _ _ x1)).trans x1
    replace x2 := (hbz.cell (World.block_lt_of_cell? _ _ x2)).trans x2
    replace x3 := (hbz.cell (World.block_lt_of_cell? _ _ x3)).trans x3
    replace x4 := (hbz.cell (World.block_lt_of_cell? _ _ x4)).trans x4
    replace x5 := (hbz.cell (World.block_lt_of_cell? _ _ x5)).trans x5
    replace x6 := (hbz.cell (World.block_lt_of_cell? _ _ x6)).trans x6
    replace x7 := (hbz.cell (World.block_lt_of_cell? _ _ x7)).trans x7
    replace x8 := (hbz.cell (World.block_lt_of_cell? _ _ x8)).trans x8
    replace x9 := (hbz.cell (World.block_lt_of_cell? _ _ x9)).trans x9
    replace x10 := (hbz.cell (World.block_lt_of_cell? _ _ x10)).trans x10
    replace x11 := (hbz.cell (World.block_lt_of_cell? _ _ x11)).trans x11
    replace x12 := (hbz.cell (World.block_lt_of_cell? _ _ x12)).trans x12
    have HBn := Aside0.mk (below_step (by repeat (first | (with_reducible first | exact HB.out | apply below_alloc | apply pw_below_drewN | apply below_drew1) | exact HB.out)) hbz)
    clear HB
    have HB := HBn
    clear HBn
    clear hbz
    refine hK.out _ _ ⟨y0, y1, y2, y3, y4, y5, y6, y7, y8, y9, y10, y11, y12, z0, z1, z2, z3, z4, z5, z6, z7, z8, z9, z10, z11, z12, u9, u14, x0, x1, x2, x3, x4, x5, x6, x7, x8, x9, x10, x11, x12⟩ (fun hHeld => ?_)
    clear hK K
    refine norm_ (a' := ?_) ?_ ?_
    rotate_left
    · show Act.put _ (some 73) _ = _
      simp only [Act.put, List.setIfInBounds_toArray, List.set_cons_zero, List.set_cons_succ, i64_w, i32_w]
      rfl
    refine pure_ (i := 30) (N := some 74) (v := ?_) (a' := ?_) #[true, true, true, true, true, true, true, true, true, true, true, true, true, true, true, true, true, true, true, true, true, true, true, true, true, true, true, true, true, true, true, false, false, false, false, false] rfl rfl (by kernel_rfl) (fun _ _ _ h => h) (Or.inl ⟨by rfl, ?_⟩) ?_ ?_
    rotate_left
    · intro w'
      go_simp
      with_reducible rfl
    rotate_left
    · simp only [Act.put, List.setIfInBounds_toArray, List.set_cons_zero, List.set_cons_succ, i64_w, i32_w]
      rfl
    refine pure_ (i := 31) (N := some 75) (v := ?_) (a' := ?_) #[true, true, true, true, true, true, true, true, true, true, true, true, true, true, true, true, true, true, true, true, true, true, true, true, true, true, true, true, true, true, true, true, false, false, false, false] rfl rfl (by kernel_rfl) (fun _ _ _ h => h) (Or.inl ⟨by rfl, ?_⟩) ?_ ?_
    rotate_left
    · intro w'
      go_simp
      with_reducible rfl
    rotate_left
    · simp only [Act.put, List.setIfInBounds_toArray, List.set_cons_zero, List.set_cons_succ, i64_w, i32_w]
      rfl
    refine pure_ (i := 32) (N := some 76) (v := ?_) (a' := ?_) #[true, true, true, true, true, true, true, true, true, true, true, true, true, true, true, true, true, true, true, true, true, true, true, true, true, true, true, true, true, true, true, true, true, false, false, false] rfl rfl (by kernel_rfl) (fun _ _ _ h => h) (Or.inl ⟨by rfl, ?_⟩) ?_ ?_
    rotate_left
    · intro w'
      go_simp
      with_reducible rfl
    rotate_left
    · simp only [Act.put, List.setIfInBounds_toArray, List.set_cons_zero, List.set_cons_succ, i64_w, i32_w]
      rfl
    refine one_ (i := 33) (N := some 77) #[true, true, true, true, true, true, true, true, true, true, true, true, true, true, true, true, true, true, true, true, true, true, true, true, true, true, true, true, true, true, true, true, true, true, false, false] rfl rfl (by kernel_rfl) (by decide) (fun K hK => ?_)
    refine goes_ Try.func13 (by kernel_rfl) rfl #[] (by rfl) rfl rfl (by simp) ?_
    with_reducible refine (works_c _).mono ?_
    rintro e w7 ⟨rfl, hbz⟩
    refine ⟨_, rfl, ?_⟩
    replace y0 := (hbz.cell (World.block_lt_of_cell? _ _ y0)).trans y0
    replace y1 := (hbz.cell (World.block_lt_of_cell? _ _ y1)).trans y1
    replace y2 := (hbz.cell (World.block_lt_of_cell? _ _ y2)).trans y2
    replace y3 := (hbz.cell (World.block_lt_of_cell? _ _ y3)).trans y3
    replace y4 := (hbz.cell (World.block_lt_of_cell? _ _ y4)).trans y4
    replace y5 := (hbz.cell (World.block_lt_of_cell? _ _ y5)).trans y5
    replace y6 := (hbz.cell (World.block_lt_of_cell? _ _ y6)).trans y6
    replace y7 := (hbz.cell (World.block_lt_of_cell? _ _ y7)).trans y7
    replace y8 := (hbz.cell (World.block_lt_of_cell? _ _ y8)).trans y8
    replace y9 := (hbz.cell (World.block_lt_of_cell? _ _ y9)).trans y9
    replace y10 := (hbz.cell (World.block_lt_of_cell? _ _ y10)).trans y10
    replace y11 := (hbz.cell (World.block_lt_of_cell? _ _ y11)).trans y11
    replace y12 := (hbz.cell (World.block_lt_of_cell? _ _ y12)).trans y12
    replace z0 := (hbz.cell (World.block_lt_of_cell? _ _ z0)).trans z0
    replace z1 := (hbz.cell (World.block_lt_of_cell? _ _ z1)).trans z1
    replace z2 := (hbz.cell (World.block_lt_of_cell? _ _ z2)).trans z2
    replace z3 := (hbz.cell (World.block_lt_of_cell? _ _ z3)).trans z3
    replace z4 := (hbz.cell (World.block_lt_of_cell? _ _ z4)).trans z4
    replace z5 := (hbz.cell (World.block_lt_of_cell? _ _ z5)).trans z5
    replace z6 := (hbz.cell (World.block_lt_of_cell? _ _ z6)).trans z6
    replace z7 := (hbz.cell (World.block_lt_of_cell? _ _ z7)).trans z7
    replace z8 := (hbz.cell (World.block_lt_of_cell? _ _ z8)).trans z8
    replace z9 := (hbz.cell (World.block_lt_of_cell? _ _ z9)).trans z9
    replace z10 := (hbz.cell (World.block_lt_of_cell? _ _ z10)).trans z10
    replace z11 := (hbz.cell (World.block_lt_of_cell? _ _ z11)).trans z11
    replace z12 := (hbz.cell (World.block_lt_of_cell? _ _ z12)).trans z12
    replace u9 := (hbz.cell (World.block_lt_of_cell? _ _ u9)).trans u9
    replace u14 := (hbz.cell (World.block_lt_of_cell? _ _ u14)).trans u14
    replace x0 := (hbz.cell (World.block_lt_of_cell? _ _ x0)).trans x0
    replace x1 := (hbz.cell (World.block_lt_of_cell? _ _ x1)).trans x1
    replace x2 := (hbz.cell (World.block_lt_of_cell? _ _ x2)).trans x2
    replace x3 := (hbz.cell (World.block_lt_of_cell? _ _ x3)).trans x3
    replace x4 := (hbz.cell (World.block_lt_of_cell? _ _ x4)).trans x4
    replace x5 := (hbz.cell (World.block_lt_of_cell? _ _ x5)).trans x5
    replace x6 := (hbz.cell (World.block_lt_of_cell? _ _ x6)).trans x6
    replace x7 := (hbz.cell (World.block_lt_of_cell? _ _ x7)).trans x7
    replace x8 := (hbz.cell (World.block_lt_of_cell? _ _ x8)).trans x8
    replace x9 := (hbz.cell (World.block_lt_of_cell? _ _ x9)).trans x9
    replace x10 := (hbz.cell (World.block_lt_of_cell? _ _ x10)).trans x10
    replace x11 := (hbz.cell (World.block_lt_of_cell? _ _ x11)).trans x11
    replace x12 := (hbz.cell (World.block_lt_of_cell? _ _ x12)).trans x12
    have HBn := Aside0.mk (below_step (by repeat (first | (with_reducible first | exact HB.out | apply below_alloc | apply pw_below_drewN | apply below_drew1) | exact HB.out)) hbz)
    clear HB
    have HB := HBn
    clear HBn
    clear hbz
    refine hK.out _ _ ⟨y0, y1, y2, y3, y4, y5, y6, y7, y8, y9, y10, y11, y12, z0, z1, z2, z3, z4, z5, z6, z7, z8, z9, z10, z11, z12, u9, u14, x0, x1, x2, x3, x4, x5, x6, x7, x8, x9, x10, x11, x12⟩ (fun hHeld => ?_)
    clear hK K
    refine norm_ (a' := ?_) ?_ ?_
    rotate_left
    · show Act.put _ (some 77) _ = _
      simp only [Act.put, List.setIfInBounds_toArray, List.set_cons_zero, List.set_cons_succ, i64_w, i32_w]
      rfl
    refine pure_ (i := 34) (N := some 78) (v := ?_) (a' := ?_) #[true, true, true, true, true, true, true, true, true, true, true, true, true, true, true, true, true, true, true, true, true, true, true, true, true, true, true, true, true, true, true, true, true, true, true, false] rfl rfl (by kernel_rfl) (fun _ _ _ h => h) (Or.inl ⟨by rfl, ?_⟩) ?_ ?_
    rotate_left
    · intro w'
      go_simp
      with_reducible rfl
    rotate_left
    · simp only [Act.put, List.setIfInBounds_toArray, List.set_cons_zero, List.set_cons_succ, i64_w, i32_w]
      rfl
    refine pure_ (i := 35) (N := some 6) (v := ?_) (a' := ?_) #[true, true, true, true, true, true, true, true, true, true, true, true, true, true, true, true, true, true, true, true, true, true, true, true, true, true, true, true, true, true, true, true, true, true, true, true] rfl rfl (by kernel_rfl) (fun _ _ _ h => h) (Or.inl ⟨by rfl, ?_⟩) ?_ ?_
    rotate_left
    · intro w'
      go_simp
      with_reducible rfl
    rotate_left
    · simp only [Act.put, List.setIfInBounds_toArray, List.set_cons_zero, List.set_cons_succ, i64_w, i32_w]
      rfl
    refine done_ (by kernel_rfl) ?_
    
    go_wp2
    go_ret
    exact ⟨rfl, by repeat (first | (with_reducible first | exact HB.out | apply below_alloc | apply pw_below_drewN | apply below_drew1) | exact HB.out)⟩
  · have b0 : decide (0 < (xs.length : Int)) = false := decide_eq_false (by omega)
    have p0 := eq_false (show ¬ (0 : Int) < (xs.length : Int) by omega)
    have p1 := eq_false (show ¬ 0 < xs.length by omega)
    subst hn
    clear hp
    go_enter Try.func3, Try.ntmps3
    go_upto_region 5 with (first | (go_at_call 8; (with_reducible refine at_args #[.agg #[.int .u16 a, .int .u16 l, .int .u16 q, .int .i64 z, .int .i64 eb, .int .i64 fb, .int .i64 su, .bool ext, .int .u16 idx, .bool held, .int .u16 b, .bool inh, .bool srv], .agg #[.int .u16 s], .int .u16 _] ?_); (with_reducible refine (EP.out _).mono ?_); rintro e w1 ⟨v, rfl, hR, hbz⟩; obtain ⟨A1, c1, rfl, hc1, hC⟩ := Kd.R_reads hR; have C1 := Aside0.mk hC; clear hR hC; have K3 := Aside0.mk (blk_below (blk_alloc (blk_new w (.cells #[.int .u16 a, .int .u16 l, .int .u16 q, .int .i64 z, .int .i64 eb, .int .i64 fb, .int .i64 su, .bool ext, .int .u16 idx, .bool held, .int .u16 b, .bool inh, .bool srv] 26)) (.cells #[.int .u16 s] 28)) hbz); have K4 := Aside0.mk (blk_below (lk4 a l q z eb fb su ext idx held b inh srv s w) hbz); have HBn := Aside0.mk (below_step (by repeat (first | (with_reducible first | exact HB.out | apply below_alloc | apply pw_below_drewN | apply below_drew1) | exact HB.out)) hbz); clear HB; have HB := HBn; clear HBn; clear hbz))
    have n3 : Aside0 ((World.heap ((w1.alloc (.cells #[.int .u16 r0, .int .u16 r1, .int .u16 r2, .int .i64 r3, .int .i64 r4, .int .i64 r5, .int .i64 r6, .bool r7, .int .u16 r8, .bool r9, .int .u16 r10, .bool r11, .bool r12] 26)).alloc (.cells #[.int .u16 r13] 28)))[w.heap.size]? = some (.cells #[.int .u16 a, .int .u16 l, .int .u16 q, .int .i64 z, .int .i64 eb, .int .i64 fb, .int .i64 su, .bool ext, .int .u16 idx, .bool held, .int .u16 b, .bool inh, .bool srv] 26 (0, 0))) := ⟨blk_alloc (blk_alloc K3.out _) _⟩
    have n4 : Aside0 ((World.heap ((w1.alloc (.cells #[.int .u16 r0, .int .u16 r1, .int .u16 r2, .int .i64 r3, .int .i64 r4, .int .i64 r5, .int .i64 r6, .bool r7, .int .u16 r8, .bool r9, .int .u16 r10, .bool r11, .bool r12] 26)).alloc (.cells #[.int .u16 r13] 28)))[w.heap.size + 1]? = some (.cells #[.int .u16 s] 28 (0, 0))) := ⟨blk_alloc (blk_alloc K4.out _) _⟩
    have n8 : Aside0 ((World.heap ((w1.alloc (.cells #[.int .u16 r0, .int .u16 r1, .int .u16 r2, .int .i64 r3, .int .i64 r4, .int .i64 r5, .int .i64 r6, .bool r7, .int .u16 r8, .bool r9, .int .u16 r10, .bool r11, .bool r12] 26)).alloc (.cells #[.int .u16 r13] 28)))[w1.heap.size]? = some (.cells #[.int .u16 r0, .int .u16 r1, .int .u16 r2, .int .i64 r3, .int .i64 r4, .int .i64 r5, .int .i64 r6, .bool r7, .int .u16 r8, .bool r9, .int .u16 r10, .bool r11, .bool r12] 26 (0, 0))) := ⟨blk_alloc (blk_new w1 _) _⟩
    have n9 : Aside0 ((World.heap ((w1.alloc (.cells #[.int .u16 r0, .int .u16 r1, .int .u16 r2, .int .i64 r3, .int .i64 r4, .int .i64 r5, .int .i64 r6, .bool r7, .int .u16 r8, .bool r9, .int .u16 r10, .bool r11, .bool r12] 26)).alloc (.cells #[.int .u16 r13] 28)))[w1.heap.size + 1]? = some (.cells #[.int .u16 r13] 28 (0, 0))) := ⟨(by have h := blk_new (w1.alloc (.cells #[.int .u16 r0, .int .u16 r1, .int .u16 r2, .int .i64 r3, .int .i64 r4, .int .i64 r5, .int .i64 r6, .bool r7, .int .u16 r8, .bool r9, .int .u16 r10, .bool r11, .bool r12] 26)) (.cells #[.int .u16 r13] 28); rw [World.size_alloc] at h; exact h)⟩
    have nC : Aside0 (Kd.C k49 ((w1.alloc (.cells #[.int .u16 r0, .int .u16 r1, .int .u16 r2, .int .i64 r3, .int .i64 r4, .int .i64 r5, .int .i64 r6, .bool r7, .int .u16 r8, .bool r9, .int .u16 r10, .bool r11, .bool r12] 26)).alloc (.cells #[.int .u16 r13] 28)) A1 r14.length r14) := ⟨Kd.C_alloc (Kd.C_alloc C1.out _) _⟩
    have nB : Aside0 (Below w.heap.size w ((w1.alloc (.cells #[.int .u16 r0, .int .u16 r1, .int .u16 r2, .int .i64 r3, .int .i64 r4, .int .i64 r5, .int .i64 r6, .bool r7, .int .u16 r8, .bool r9, .int .u16 r10, .bool r11, .bool r12] 26)).alloc (.cells #[.int .u16 r13] 28))) := ⟨below_alloc (below_alloc HB.out _) _⟩
    clear K3 K4 C1 HB
    generalize (w1.alloc (.cells #[.int .u16 r0, .int .u16 r1, .int .u16 r2, .int .i64 r3, .int .i64 r4, .int .i64 r5, .int .i64 r6, .bool r7, .int .u16 r8, .bool r9, .int .u16 r10, .bool r11, .bool r12] 26)).alloc (.cells #[.int .u16 r13] 28) = w5 at n3 n4 n8 n9 nC nB ⊢
    obtain ⟨b8, hb8⟩ : ∃ x, w1.heap.size = x := ⟨_, rfl⟩
    rw [hb8] at n8 n9 ⊢
    clear hb8
    have K3 := n3
    have K4 := n4
    have K8 := n8
    have K9 := n9
    have C1 := nC
    have HB := nB
    clear n3 n4 n8 n9 nC nB
    have x0 : w5.cell? ⟨w.heap.size, 0, none⟩ = some (.int .u16 a) := (blk_cell K3.out 0).trans rfl
    have x1 : w5.cell? ⟨w.heap.size, 1, none⟩ = some (.int .u16 l) := (blk_cell K3.out 1).trans rfl
    have x2 : w5.cell? ⟨w.heap.size, 2, none⟩ = some (.int .u16 q) := (blk_cell K3.out 2).trans rfl
    have x3 : w5.cell? ⟨w.heap.size, 3, none⟩ = some (.int .i64 z) := (blk_cell K3.out 3).trans rfl
    have x4 : w5.cell? ⟨w.heap.size, 4, none⟩ = some (.int .i64 eb) := (blk_cell K3.out 4).trans rfl
    have x5 : w5.cell? ⟨w.heap.size, 5, none⟩ = some (.int .i64 fb) := (blk_cell K3.out 5).trans rfl
    have x6 : w5.cell? ⟨w.heap.size, 6, none⟩ = some (.int .i64 su) := (blk_cell K3.out 6).trans rfl
    have x7 : w5.cell? ⟨w.heap.size, 7, none⟩ = some (.bool ext) := (blk_cell K3.out 7).trans rfl
    have x8 : w5.cell? ⟨w.heap.size, 8, none⟩ = some (.int .u16 idx) := (blk_cell K3.out 8).trans rfl
    have x9 : w5.cell? ⟨w.heap.size, 9, none⟩ = some (.bool held) := (blk_cell K3.out 9).trans rfl
    have x10 : w5.cell? ⟨w.heap.size, 10, none⟩ = some (.int .u16 b) := (blk_cell K3.out 10).trans rfl
    have x11 : w5.cell? ⟨w.heap.size, 11, none⟩ = some (.bool inh) := (blk_cell K3.out 11).trans rfl
    have x12 : w5.cell? ⟨w.heap.size, 12, none⟩ = some (.bool srv) := (blk_cell K3.out 12).trans rfl
    have u0 : w5.cell? ⟨w.heap.size + 1, 0, none⟩ = some (.int .u16 s) := (blk_cell K4.out 0).trans rfl
    go_upto_region 6 with (first | (go_at_call 9; (with_reducible refine at_args #[.agg #[.int .u16 a, .int .u16 l, .int .u16 q, .int .i64 z, .int .i64 eb, .int .i64 fb, .int .i64 su, .bool ext, .int .u16 idx, .bool held, .int .u16 b, .bool inh, .bool srv], .agg #[.int .u16 s], .int .u16 _] ?_); (with_reducible refine (ER.out _).mono ?_); rintro e w2 ⟨v, rfl, hR, hbz⟩; obtain ⟨A2, c2, rfl, hc2, hC⟩ := Kd.R_reads hR; have C2 := Aside0.mk hC; clear hR hC; have n3 := Aside0.mk (blk_below K3.out hbz); have n8 := Aside0.mk (blk_below K8.out hbz); have n9 := Aside0.mk (blk_below K9.out hbz); have nC := Aside0.mk (Kd.C_below C1.out hbz); clear K3 K4 K8 K9 C1 u0 x0 x1 x2 x3 x4 x5 x6 x7 x8 x9 x10 x11 x12; have K3 := n3; have K8 := n8; have K9 := n9; have C1 := nC; clear n3 n8 n9 nC; have HBn := Aside0.mk (below_step (by repeat (first | (with_reducible first | exact HB.out | apply below_alloc | apply pw_below_drewN | apply below_drew1) | exact HB.out)) hbz); clear HB; have HB := HBn; clear HBn; clear hbz))
    have n3 : Aside0 ((World.heap ((w2.alloc (.cells #[.int .u16 r0, .int .u16 r1, .int .u16 r2, .int .i64 r3, .int .i64 r4, .int .i64 r5, .int .i64 r6, .bool r7, .int .u16 r8, .bool r9, .int .u16 r10, .bool r11, .bool r12] 26)).alloc (.cells #[.int .u16 r13] 28)))[w.heap.size]? = some (.cells #[.int .u16 a, .int .u16 l, .int .u16 q, .int .i64 z, .int .i64 eb, .int .i64 fb, .int .i64 su, .bool ext, .int .u16 idx, .bool held, .int .u16 b, .bool inh, .bool srv] 26 (0, 0))) := ⟨blk_alloc (blk_alloc K3.out _) _⟩
    have n8 : Aside0 ((World.heap ((w2.alloc (.cells #[.int .u16 r0, .int .u16 r1, .int .u16 r2, .int .i64 r3, .int .i64 r4, .int .i64 r5, .int .i64 r6, .bool r7, .int .u16 r8, .bool r9, .int .u16 r10, .bool r11, .bool r12] 26)).alloc (.cells #[.int .u16 r13] 28)))[b8]? = some (.cells #[.int .u16 r0, .int .u16 r1, .int .u16 r2, .int .i64 r3, .int .i64 r4, .int .i64 r5, .int .i64 r6, .bool r7, .int .u16 r8, .bool r9, .int .u16 r10, .bool r11, .bool r12] 26 (0, 0))) := ⟨blk_alloc (blk_alloc K8.out _) _⟩
    have n9 : Aside0 ((World.heap ((w2.alloc (.cells #[.int .u16 r0, .int .u16 r1, .int .u16 r2, .int .i64 r3, .int .i64 r4, .int .i64 r5, .int .i64 r6, .bool r7, .int .u16 r8, .bool r9, .int .u16 r10, .bool r11, .bool r12] 26)).alloc (.cells #[.int .u16 r13] 28)))[b8 + 1]? = some (.cells #[.int .u16 r13] 28 (0, 0))) := ⟨blk_alloc (blk_alloc K9.out _) _⟩
    have m8 : Aside0 ((World.heap ((w2.alloc (.cells #[.int .u16 r0, .int .u16 r1, .int .u16 r2, .int .i64 r3, .int .i64 r4, .int .i64 r5, .int .i64 r6, .bool r7, .int .u16 r8, .bool r9, .int .u16 r10, .bool r11, .bool r12] 26)).alloc (.cells #[.int .u16 r13] 28)))[w2.heap.size]? = some (.cells #[.int .u16 r0, .int .u16 r1, .int .u16 r2, .int .i64 r3, .int .i64 r4, .int .i64 r5, .int .i64 r6, .bool r7, .int .u16 r8, .bool r9, .int .u16 r10, .bool r11, .bool r12] 26 (0, 0))) := ⟨blk_alloc (blk_new w2 _) _⟩
    have m9 : Aside0 ((World.heap ((w2.alloc (.cells #[.int .u16 r0, .int .u16 r1, .int .u16 r2, .int .i64 r3, .int .i64 r4, .int .i64 r5, .int .i64 r6, .bool r7, .int .u16 r8, .bool r9, .int .u16 r10, .bool r11, .bool r12] 26)).alloc (.cells #[.int .u16 r13] 28)))[w2.heap.size + 1]? = some (.cells #[.int .u16 r13] 28 (0, 0))) := ⟨(by have h := blk_new (w2.alloc (.cells #[.int .u16 r0, .int .u16 r1, .int .u16 r2, .int .i64 r3, .int .i64 r4, .int .i64 r5, .int .i64 r6, .bool r7, .int .u16 r8, .bool r9, .int .u16 r10, .bool r11, .bool r12] 26)) (.cells #[.int .u16 r13] 28); rw [World.size_alloc] at h; exact h)⟩
    have nC : Aside0 (Kd.C k49 ((w2.alloc (.cells #[.int .u16 r0, .int .u16 r1, .int .u16 r2, .int .i64 r3, .int .i64 r4, .int .i64 r5, .int .i64 r6, .bool r7, .int .u16 r8, .bool r9, .int .u16 r10, .bool r11, .bool r12] 26)).alloc (.cells #[.int .u16 r13] 28)) A1 r14.length r14) := ⟨Kd.C_alloc (Kd.C_alloc C1.out _) _⟩
    have nD : Aside0 (Kd.C k49 ((w2.alloc (.cells #[.int .u16 r0, .int .u16 r1, .int .u16 r2, .int .i64 r3, .int .i64 r4, .int .i64 r5, .int .i64 r6, .bool r7, .int .u16 r8, .bool r9, .int .u16 r10, .bool r11, .bool r12] 26)).alloc (.cells #[.int .u16 r13] 28)) A2 r14.length r14) := ⟨Kd.C_alloc (Kd.C_alloc C2.out _) _⟩
    have nB : Aside0 (Below w.heap.size w ((w2.alloc (.cells #[.int .u16 r0, .int .u16 r1, .int .u16 r2, .int .i64 r3, .int .i64 r4, .int .i64 r5, .int .i64 r6, .bool r7, .int .u16 r8, .bool r9, .int .u16 r10, .bool r11, .bool r12] 26)).alloc (.cells #[.int .u16 r13] 28))) := ⟨below_alloc (below_alloc HB.out _) _⟩
    clear K3 K8 K9 C1 C2 HB EP ER
    generalize (w2.alloc (.cells #[.int .u16 r0, .int .u16 r1, .int .u16 r2, .int .i64 r3, .int .i64 r4, .int .i64 r5, .int .i64 r6, .bool r7, .int .u16 r8, .bool r9, .int .u16 r10, .bool r11, .bool r12] 26)).alloc (.cells #[.int .u16 r13] 28) = wr at n3 n8 n9 m8 m9 nC nD nB ⊢
    obtain ⟨b13, hb13⟩ : ∃ x, w2.heap.size = x := ⟨_, rfl⟩
    rw [hb13] at m8 m9 ⊢
    clear hb13
    obtain ⟨b3, hb3⟩ : ∃ x, w.heap.size = x := ⟨_, rfl⟩
    rw [hb3] at n3 ⊢
    replace hb3 := Lib.hid hb3
    have C1 := nC
    have C2 := nD
    have HB := nB
    clear nC nD nB
    have y0 : wr.cell? ⟨b8, 0, none⟩ = some (.int .u16 r0) := (blk_cell n8.out 0).trans rfl
    have y1 : wr.cell? ⟨b8, 1, none⟩ = some (.int .u16 r1) := (blk_cell n8.out 1).trans rfl
    have y2 : wr.cell? ⟨b8, 2, none⟩ = some (.int .u16 r2) := (blk_cell n8.out 2).trans rfl
    have y3 : wr.cell? ⟨b8, 3, none⟩ = some (.int .i64 r3) := (blk_cell n8.out 3).trans rfl
    have y4 : wr.cell? ⟨b8, 4, none⟩ = some (.int .i64 r4) := (blk_cell n8.out 4).trans rfl
    have y5 : wr.cell? ⟨b8, 5, none⟩ = some (.int .i64 r5) := (blk_cell n8.out 5).trans rfl
    have y6 : wr.cell? ⟨b8, 6, none⟩ = some (.int .i64 r6) := (blk_cell n8.out 6).trans rfl
    have y7 : wr.cell? ⟨b8, 7, none⟩ = some (.bool r7) := (blk_cell n8.out 7).trans rfl
    have y8 : wr.cell? ⟨b8, 8, none⟩ = some (.int .u16 r8) := (blk_cell n8.out 8).trans rfl
    have y9 : wr.cell? ⟨b8, 9, none⟩ = some (.bool r9) := (blk_cell n8.out 9).trans rfl
    have y10 : wr.cell? ⟨b8, 10, none⟩ = some (.int .u16 r10) := (blk_cell n8.out 10).trans rfl
    have y11 : wr.cell? ⟨b8, 11, none⟩ = some (.bool r11) := (blk_cell n8.out 11).trans rfl
    have y12 : wr.cell? ⟨b8, 12, none⟩ = some (.bool r12) := (blk_cell n8.out 12).trans rfl
    have z0 : wr.cell? ⟨b13, 0, none⟩ = some (.int .u16 r0) := (blk_cell m8.out 0).trans rfl
    have z1 : wr.cell? ⟨b13, 1, none⟩ = some (.int .u16 r1) := (blk_cell m8.out 1).trans rfl
    have z2 : wr.cell? ⟨b13, 2, none⟩ = some (.int .u16 r2) := (blk_cell m8.out 2).trans rfl
    have z3 : wr.cell? ⟨b13, 3, none⟩ = some (.int .i64 r3) := (blk_cell m8.out 3).trans rfl
    have z4 : wr.cell? ⟨b13, 4, none⟩ = some (.int .i64 r4) := (blk_cell m8.out 4).trans rfl
    have z5 : wr.cell? ⟨b13, 5, none⟩ = some (.int .i64 r5) := (blk_cell m8.out 5).trans rfl
    have z6 : wr.cell? ⟨b13, 6, none⟩ = some (.int .i64 r6) := (blk_cell m8.out 6).trans rfl
    have z7 : wr.cell? ⟨b13, 7, none⟩ = some (.bool r7) := (blk_cell m8.out 7).trans rfl
    have z8 : wr.cell? ⟨b13, 8, none⟩ = some (.int .u16 r8) := (blk_cell m8.out 8).trans rfl
    have z9 : wr.cell? ⟨b13, 9, none⟩ = some (.bool r9) := (blk_cell m8.out 9).trans rfl
    have z10 : wr.cell? ⟨b13, 10, none⟩ = some (.int .u16 r10) := (blk_cell m8.out 10).trans rfl
    have z11 : wr.cell? ⟨b13, 11, none⟩ = some (.bool r11) := (blk_cell m8.out 11).trans rfl
    have z12 : wr.cell? ⟨b13, 12, none⟩ = some (.bool r12) := (blk_cell m8.out 12).trans rfl
    have u9 : wr.cell? ⟨b8 + 1, 0, none⟩ = some (.int .u16 r13) := (blk_cell n9.out 0).trans rfl
    have u14 : wr.cell? ⟨b13 + 1, 0, none⟩ = some (.int .u16 r13) := (blk_cell m9.out 0).trans rfl
    have x0 : wr.cell? ⟨b3, 0, none⟩ = some (.int .u16 a) := (blk_cell n3.out 0).trans rfl
    have x1 : wr.cell? ⟨b3, 1, none⟩ = some (.int .u16 l) := (blk_cell n3.out 1).trans rfl
    have x2 : wr.cell? ⟨b3, 2, none⟩ = some (.int .u16 q) := (blk_cell n3.out 2).trans rfl
    have x3 : wr.cell? ⟨b3, 3, none⟩ = some (.int .i64 z) := (blk_cell n3.out 3).trans rfl
    have x4 : wr.cell? ⟨b3, 4, none⟩ = some (.int .i64 eb) := (blk_cell n3.out 4).trans rfl
    have x5 : wr.cell? ⟨b3, 5, none⟩ = some (.int .i64 fb) := (blk_cell n3.out 5).trans rfl
    have x6 : wr.cell? ⟨b3, 6, none⟩ = some (.int .i64 su) := (blk_cell n3.out 6).trans rfl
    have x7 : wr.cell? ⟨b3, 7, none⟩ = some (.bool ext) := (blk_cell n3.out 7).trans rfl
    have x8 : wr.cell? ⟨b3, 8, none⟩ = some (.int .u16 idx) := (blk_cell n3.out 8).trans rfl
    have x9 : wr.cell? ⟨b3, 9, none⟩ = some (.bool held) := (blk_cell n3.out 9).trans rfl
    have x10 : wr.cell? ⟨b3, 10, none⟩ = some (.int .u16 b) := (blk_cell n3.out 10).trans rfl
    have x11 : wr.cell? ⟨b3, 11, none⟩ = some (.bool inh) := (blk_cell n3.out 11).trans rfl
    have x12 : wr.cell? ⟨b3, 12, none⟩ = some (.bool srv) := (blk_cell n3.out 12).trans rfl
    clear n3 n8 n9 m8 m9
    refine start_ (n := 36) (S := fun w' => w'.cell? ⟨b8, 0, none⟩ = some (.int .u16 r0) ∧ w'.cell? ⟨b8, 1, none⟩ = some (.int .u16 r1) ∧ w'.cell? ⟨b8, 2, none⟩ = some (.int .u16 r2) ∧ w'.cell? ⟨b8, 3, none⟩ = some (.int .i64 r3) ∧ w'.cell? ⟨b8, 4, none⟩ = some (.int .i64 r4) ∧ w'.cell? ⟨b8, 5, none⟩ = some (.int .i64 r5) ∧ w'.cell? ⟨b8, 6, none⟩ = some (.int .i64 r6) ∧ w'.cell? ⟨b8, 7, none⟩ = some (.bool r7) ∧ w'.cell? ⟨b8, 8, none⟩ = some (.int .u16 r8) ∧ w'.cell? ⟨b8, 9, none⟩ = some (.bool r9) ∧ w'.cell? ⟨b8, 10, none⟩ = some (.int .u16 r10) ∧ w'.cell? ⟨b8, 11, none⟩ = some (.bool r11) ∧ w'.cell? ⟨b8, 12, none⟩ = some (.bool r12) ∧ w'.cell? ⟨b13, 0, none⟩ = some (.int .u16 r0) ∧ w'.cell? ⟨b13, 1, none⟩ = some (.int .u16 r1) ∧ w'.cell? ⟨b13, 2, none⟩ = some (.int .u16 r2) ∧ w'.cell? ⟨b13, 3, none⟩ = some (.int .i64 r3) ∧ w'.cell? ⟨b13, 4, none⟩ = some (.int .i64 r4) ∧ w'.cell? ⟨b13, 5, none⟩ = some (.int .i64 r5) ∧ w'.cell? ⟨b13, 6, none⟩ = some (.int .i64 r6) ∧ w'.cell? ⟨b13, 7, none⟩ = some (.bool r7) ∧ w'.cell? ⟨b13, 8, none⟩ = some (.int .u16 r8) ∧ w'.cell? ⟨b13, 9, none⟩ = some (.bool r9) ∧ w'.cell? ⟨b13, 10, none⟩ = some (.int .u16 r10) ∧ w'.cell? ⟨b13, 11, none⟩ = some (.bool r11) ∧ w'.cell? ⟨b13, 12, none⟩ = some (.bool r12) ∧ w'.cell? ⟨b8 + 1, 0, none⟩ = some (.int .u16 r13) ∧ w'.cell? ⟨b13 + 1, 0, none⟩ = some (.int .u16 r13) ∧ w'.cell? ⟨b3, 0, none⟩ = some (.int .u16 a) ∧ w'.cell? ⟨b3, 1, none⟩ = some (.int .u16 l) ∧ w'.cell? ⟨b3, 2, none⟩ = some (.int .u16 q) ∧ w'.cell? ⟨b3, 3, none⟩ = some (.int .i64 z) ∧ w'.cell? ⟨b3, 4, none⟩ = some (.int .i64 eb) ∧ w'.cell? ⟨b3, 5, none⟩ = some (.int .i64 fb) ∧ w'.cell? ⟨b3, 6, none⟩ = some (.int .i64 su) ∧ w'.cell? ⟨b3, 7, none⟩ = some (.bool ext) ∧ w'.cell? ⟨b3, 8, none⟩ = some (.int .u16 idx) ∧ w'.cell? ⟨b3, 9, none⟩ = some (.bool held) ∧ w'.cell? ⟨b3, 10, none⟩ = some (.int .u16 b) ∧ w'.cell? ⟨b3, 11, none⟩ = some (.bool inh) ∧ w'.cell? ⟨b3, 12, none⟩ = some (.bool srv)) (ds := []) #[false, false, false, false, false, false, false, false, false, false, false, false, false, false, false, false, false, false, false, false, false, false, false, false, false, false, false, false, false, false, false, false, false, false, false, false] (by kernel_rfl) rfl rfl ⟨y0, y1, y2, y3, y4, y5, y6, y7, y8, y9, y10, y11, y12, z0, z1, z2, z3, z4, z5, z6, z7, z8, z9, z10, z11, z12, u9, u14, x0, x1, x2, x3, x4, x5, x6, x7, x8, x9, x10, x11, x12⟩ (fun hHeld => ?_)
    replace C1 : Aside0 (Kd.C k49 wr.drew A1 r14.length r14) := ⟨Kd.C_drew C1.out⟩
    replace C2 : Aside0 (Kd.C k49 wr.drew A2 r14.length r14) := ⟨Kd.C_drew C2.out⟩
    replace HB : Aside0 (Below w.heap.size w wr.drew) := ⟨below_drew1 HB.out⟩
    change wr.drew.cell? _ = _ at y0
    change wr.drew.cell? _ = _ at y1
    change wr.drew.cell? _ = _ at y2
    change wr.drew.cell? _ = _ at y3
    change wr.drew.cell? _ = _ at y4
    change wr.drew.cell? _ = _ at y5
    change wr.drew.cell? _ = _ at y6
    change wr.drew.cell? _ = _ at y7
    change wr.drew.cell? _ = _ at y8
    change wr.drew.cell? _ = _ at y9
    change wr.drew.cell? _ = _ at y10
    change wr.drew.cell? _ = _ at y11
    change wr.drew.cell? _ = _ at y12
    change wr.drew.cell? _ = _ at z0
    change wr.drew.cell? _ = _ at z1
    change wr.drew.cell? _ = _ at z2
    change wr.drew.cell? _ = _ at z3
    change wr.drew.cell? _ = _ at z4
    change wr.drew.cell? _ = _ at z5
    change wr.drew.cell? _ = _ at z6
    change wr.drew.cell? _ = _ at z7
    change wr.drew.cell? _ = _ at z8
    change wr.drew.cell? _ = _ at z9
    change wr.drew.cell? _ = _ at z10
    change wr.drew.cell? _ = _ at z11
    change wr.drew.cell? _ = _ at z12
    change wr.drew.cell? _ = _ at u9
    change wr.drew.cell? _ = _ at u14
    change wr.drew.cell? _ = _ at x0
    change wr.drew.cell? _ = _ at x1
    change wr.drew.cell? _ = _ at x2
    change wr.drew.cell? _ = _ at x3
    change wr.drew.cell? _ = _ at x4
    change wr.drew.cell? _ = _ at x5
    change wr.drew.cell? _ = _ at x6
    change wr.drew.cell? _ = _ at x7
    change wr.drew.cell? _ = _ at x8
    change wr.drew.cell? _ = _ at x9
    change wr.drew.cell? _ = _ at x10
    change wr.drew.cell? _ = _ at x11
    change wr.drew.cell? _ = _ at x12
    generalize wr.drew = wd at C1 C2 HB y0 y1 y2 y3 y4 y5 y6 y7 y8 y9 y10 y11 y12 z0 z1 z2 z3 z4 z5 z6 z7 z8 z9 z10 z11 z12 u9 u14 x0 x1 x2 x3 x4 x5 x6 x7 x8 x9 x10 x11 x12 hHeld ⊢
    refine take_ (i := 0) (N := some 44) (v := ?_) (a' := ?_) #[true, false, false, false, false, false, false, false, false, false, false, false, false, false, false, false, false, false, false, false, false, false, false, false, false, false, false, false, false, false, false, false, false, false, false, false] rfl rfl (by kernel_rfl) (fun _ _ _ h => h) (Or.inl ⟨by rfl, ?_⟩) hHeld ?_ ?_
    rotate_left
    · rintro w' ⟨s0, s1, s2, s3, s4, s5, s6, s7, s8, s9, s10, s11, s12, s13, s14, s15, s16, s17, s18, s19, s20, s21, s22, s23, s24, s25, s26, s27, s28, s29, s30, s31, s32, s33, s34, s35, s36, s37, s38, s39, s40⟩
      go_simp
      with_reducible rfl
    rotate_left
    · simp only [Act.put, List.setIfInBounds_toArray, List.set_cons_zero, List.set_cons_succ, i64_w, i32_w]
      rfl
    refine take_ (i := 1) (N := some 45) (v := ?_) (a' := ?_) #[true, true, false, false, false, false, false, false, false, false, false, false, false, false, false, false, false, false, false, false, false, false, false, false, false, false, false, false, false, false, false, false, false, false, false, false] rfl rfl (by kernel_rfl) (fun _ _ _ h => h) (Or.inl ⟨by rfl, ?_⟩) hHeld ?_ ?_
    rotate_left
    · rintro w' ⟨s0, s1, s2, s3, s4, s5, s6, s7, s8, s9, s10, s11, s12, s13, s14, s15, s16, s17, s18, s19, s20, s21, s22, s23, s24, s25, s26, s27, s28, s29, s30, s31, s32, s33, s34, s35, s36, s37, s38, s39, s40⟩
      go_simp
      with_reducible rfl
    rotate_left
    · simp only [Act.put, List.setIfInBounds_toArray, List.set_cons_zero, List.set_cons_succ, i64_w, i32_w]
      rfl
    refine pure_ (i := 2) (N := some 46) (v := ?_) (a' := ?_) #[true, true, true, false, false, false, false, false, false, false, false, false, false, false, false, false, false, false, false, false, false, false, false, false, false, false, false, false, false, false, false, false, false, false, false, false] rfl rfl (by kernel_rfl) (fun _ _ _ h => h) (Or.inl ⟨by rfl, ?_⟩) ?_ ?_
    rotate_left
    · intro w'
      go_simp
      with_reducible rfl
    rotate_left
    · simp only [Act.put, List.setIfInBounds_toArray, List.set_cons_zero, List.set_cons_succ, i64_w, i32_w]
      rfl
    refine pure_ (i := 3) (N := some 47) (v := ?_) (a' := ?_) #[true, true, true, true, false, false, false, false, false, false, false, false, false, false, false, false, false, false, false, false, false, false, false, false, false, false, false, false, false, false, false, false, false, false, false, false] rfl rfl (by kernel_rfl) (fun _ _ _ h => h) (Or.inl ⟨by rfl, ?_⟩) ?_ ?_
    rotate_left
    · intro w'
      go_simp
      with_reducible rfl
    rotate_left
    · simp only [Act.put, List.setIfInBounds_toArray, List.set_cons_zero, List.set_cons_succ, i64_w, i32_w]
      rfl
    refine take_ (i := 4) (N := some 48) (v := ?_) (a' := ?_) #[true, true, true, true, true, false, false, false, false, false, false, false, false, false, false, false, false, false, false, false, false, false, false, false, false, false, false, false, false, false, false, false, false, false, false, false] rfl rfl (by kernel_rfl) (fun _ _ _ h => h) (Or.inl ⟨by rfl, ?_⟩) hHeld ?_ ?_
    rotate_left
    · rintro w' ⟨s0, s1, s2, s3, s4, s5, s6, s7, s8, s9, s10, s11, s12, s13, s14, s15, s16, s17, s18, s19, s20, s21, s22, s23, s24, s25, s26, s27, s28, s29, s30, s31, s32, s33, s34, s35, s36, s37, s38, s39, s40⟩
      go_simp
      with_reducible rfl
    rotate_left
    · simp only [Act.put, List.setIfInBounds_toArray, List.set_cons_zero, List.set_cons_succ, i64_w, i32_w]
      rfl
    refine take_ (i := 5) (N := some 49) (v := ?_) (a' := ?_) #[true, true, true, true, true, true, false, false, false, false, false, false, false, false, false, false, false, false, false, false, false, false, false, false, false, false, false, false, false, false, false, false, false, false, false, false] rfl rfl (by kernel_rfl) (fun _ _ _ h => h) (Or.inl ⟨by rfl, ?_⟩) hHeld ?_ ?_
    rotate_left
    · rintro w' ⟨s0, s1, s2, s3, s4, s5, s6, s7, s8, s9, s10, s11, s12, s13, s14, s15, s16, s17, s18, s19, s20, s21, s22, s23, s24, s25, s26, s27, s28, s29, s30, s31, s32, s33, s34, s35, s36, s37, s38, s39, s40⟩
      go_simp
      with_reducible rfl
    rotate_left
    · simp only [Act.put, List.setIfInBounds_toArray, List.set_cons_zero, List.set_cons_succ, i64_w, i32_w]
      rfl
    refine pure_ (i := 6) (N := some 50) (v := ?_) (a' := ?_) #[true, true, true, true, true, true, true, false, false, false, false, false, false, false, false, false, false, false, false, false, false, false, false, false, false, false, false, false, false, false, false, false, false, false, false, false] rfl rfl (by kernel_rfl) (fun _ _ _ h => h) (Or.inl ⟨by rfl, ?_⟩) ?_ ?_
    rotate_left
    · intro w'
      go_simp
      with_reducible rfl
    rotate_left
    · simp only [Act.put, List.setIfInBounds_toArray, List.set_cons_zero, List.set_cons_succ, i64_w, i32_w]
      rfl
    refine pure_ (i := 7) (N := some 51) (v := ?_) (a' := ?_) #[true, true, true, true, true, true, true, true, false, false, false, false, false, false, false, false, false, false, false, false, false, false, false, false, false, false, false, false, false, false, false, false, false, false, false, false] rfl rfl (by kernel_rfl) (fun _ _ _ h => h) (Or.inl ⟨by rfl, ?_⟩) ?_ ?_
    rotate_left
    · intro w'
      go_simp
      with_reducible rfl
    rotate_left
    · simp only [Act.put, List.setIfInBounds_toArray, List.set_cons_zero, List.set_cons_succ, i64_w, i32_w]
      rfl
    refine pure_ (i := 8) (N := some 52) (v := ?_) (a' := ?_) #[true, true, true, true, true, true, true, true, true, false, false, false, false, false, false, false, false, false, false, false, false, false, false, false, false, false, false, false, false, false, false, false, false, false, false, false] rfl rfl (by kernel_rfl) (fun _ _ _ h => h) (Or.inl ⟨by rfl, ?_⟩) ?_ ?_
    rotate_left
    · intro w'
      go_simp
      with_reducible rfl
    rotate_left
    · simp only [Act.put, List.setIfInBounds_toArray, List.set_cons_zero, List.set_cons_succ, i64_w, i32_w]
      rfl
    refine pure_ (i := 9) (N := some 53) (v := ?_) (a' := ?_) #[true, true, true, true, true, true, true, true, true, true, false, false, false, false, false, false, false, false, false, false, false, false, false, false, false, false, false, false, false, false, false, false, false, false, false, false] rfl rfl (by kernel_rfl) (fun _ _ _ h => h) (Or.inl ⟨by rfl, ?_⟩) ?_ ?_
    rotate_left
    · intro w'
      go_simp
      with_reducible rfl
    rotate_left
    · simp only [Act.put, List.setIfInBounds_toArray, List.set_cons_zero, List.set_cons_succ, i64_w, i32_w]
      rfl
    refine pure_ (i := 10) (N := some 54) (v := ?_) (a' := ?_) #[true, true, true, true, true, true, true, true, true, true, true, false, false, false, false, false, false, false, false, false, false, false, false, false, false, false, false, false, false, false, false, false, false, false, false, false] rfl rfl (by kernel_rfl) (fun _ _ _ h => h) (Or.inl ⟨by rfl, ?_⟩) ?_ ?_
    rotate_left
    · intro w'
      go_simp
      with_reducible rfl
    rotate_left
    · simp only [Act.put, List.setIfInBounds_toArray, List.set_cons_zero, List.set_cons_succ, i64_w, i32_w]
      rfl
    refine one_ (i := 11) (N := some 55) #[true, true, true, true, true, true, true, true, true, true, true, true, false, false, false, false, false, false, false, false, false, false, false, false, false, false, false, false, false, false, false, false, false, false, false, false] rfl rfl (by kernel_rfl) (by decide) (fun K hK => ?_)
    refine goes_ Try.func10 (by kernel_rfl) rfl #[.slice A1 r14.length c1, .slice A2 r14.length c2] (by rfl) rfl rfl (by simp only [List.map_toArray, List.map_cons, List.map_nil]; rfl) ?_
    with_reducible refine (periluneref05_Cells.calls 20 A1 c1 r14 A2 c2 r14 true _ C1.out hc1 C2.out hc2 CQ.out).mono ?_
    rintro e w3 ⟨rfl, ⟨nd, hd⟩⟩
    refine ⟨_, rfl, ?_⟩
    have hbz := drawn_below hd
    clear C1 C2 hd
    replace y0 := (hbz.cell (World.block_lt_of_cell? _ _ y0)).trans y0
    replace y1 := (hbz.cell (World.block_lt_of_cell? _ _ y1)).trans y1
    replace y2 := (hbz.cell (World.block_lt_of_cell? _ _ y2)).trans y2
    replace y3 := (hbz.cell (World.block_lt_of_cell? _ _ y3)).trans y3
    replace y4 := (hbz.cell (World.block_lt_of_cell? _ _ y4)).trans y4
    replace y5 := (hbz.cell (World.block_lt_of_cell? _ _ y5)).trans y5
    replace y6 := (hbz.cell (World.block_lt_of_cell? _ _ y6)).trans y6
    replace y7 := (hbz.cell (World.block_lt_of_cell? _ _ y7)).trans y7
    replace y8 := (hbz.cell (World.block_lt_of_cell? _ _ y8)).trans y8
    replace y9 := (hbz.cell (World.block_lt_of_cell? _ _ y9)).trans y9
    replace y10 := (hbz.cell (World.block_lt_of_cell? _ _ y10)).trans y10
    replace y11 := (hbz.cell (World.block_lt_of_cell? _ _ y11)).trans y11
    replace y12 := (hbz.cell (World.block_lt_of_cell? _ _ y12)).trans y12
    replace z0 := (hbz.cell (World.block_lt_of_cell? _ _ z0)).trans z0
    replace z1 := (hbz.cell (World.block_lt_of_cell? _ _ z1)).trans z1
    replace z2 := (hbz.cell (World.block_lt_of_cell? _ _ z2)).trans z2
    replace z3 := (hbz.cell (World.block_lt_of_cell? _ _ z3)).trans z3
    replace z4 := (hbz.cell (World.block_lt_of_cell? _ _ z4)).trans z4
    replace z5 := (hbz.cell (World.block_lt_of_cell? _ _ z5)).trans z5
    replace z6 := (hbz.cell (World.block_lt_of_cell? _ _ z6)).trans z6
    replace z7 := (hbz.cell (World.block_lt_of_cell? _ _ z7)).trans z7
    replace z8 := (hbz.cell (World.block_lt_of_cell? _ _ z8)).trans z8
    replace z9 := (hbz.cell (World.block_lt_of_cell? _ _ z9)).trans z9
    replace z10 := (hbz.cell (World.block_lt_of_cell? _ _ z10)).trans z10
    replace z11 := (hbz.cell (World.block_lt_of_cell? _ _ z11)).trans z11
    replace z12 := (hbz.cell (World.block_lt_of_cell? _ _ z12)).trans z12
    replace u9 := (hbz.cell (World.block_lt_of_cell? _ _ u9)).trans u9
    replace u14 := (hbz.cell (World.block_lt_of_cell? _ _ u14)).trans u14
    replace x0 := (hbz.cell (World.block_lt_of_cell? _ _ x0)).trans x0
    replace x1 := (hbz.cell (World.block_lt_of_cell? _ _ x1)).trans x1
    replace x2 := (hbz.cell (World.block_lt_of_cell? _ _ x2)).trans x2
    replace x3 := (hbz.cell (World.block_lt_of_cell? _ _ x3)).trans x3
    replace x4 := (hbz.cell (World.block_lt_of_cell? _ _ x4)).trans x4
    replace x5 := (hbz.cell (World.block_lt_of_cell? _ _ x5)).trans x5
    replace x6 := (hbz.cell (World.block_lt_of_cell? _ _ x6)).trans x6
    replace x7 := (hbz.cell (World.block_lt_of_cell? _ _ x7)).trans x7
    replace x8 := (hbz.cell (World.block_lt_of_cell? _ _ x8)).trans x8
    replace x9 := (hbz.cell (World.block_lt_of_cell? _ _ x9)).trans x9
    replace x10 := (hbz.cell (World.block_lt_of_cell? _ _ x10)).trans x10
    replace x11 := (hbz.cell (World.block_lt_of_cell? _ _ x11)).trans x11
    replace x12 := (hbz.cell (World.block_lt_of_cell? _ _ x12)).trans x12
    have HBn := Aside0.mk (below_step (by repeat (first | (with_reducible first | exact HB.out | apply below_alloc | apply pw_below_drewN | apply below_drew1) | exact HB.out)) hbz)
    clear HB
    have HB := HBn
    clear HBn
    clear hbz
    refine hK.out _ _ ⟨y0, y1, y2, y3, y4, y5, y6, y7, y8, y9, y10, y11, y12, z0, z1, z2, z3, z4, z5, z6, z7, z8, z9, z10, z11, z12, u9, u14, x0, x1, x2, x3, x4, x5, x6, x7, x8, x9, x10, x11, x12⟩ (fun hHeld => ?_)
    clear hK K
    refine norm_ (a' := ?_) ?_ ?_
    rotate_left
    · show Act.put _ (some 55) _ = _
      simp only [Act.put, List.setIfInBounds_toArray, List.set_cons_zero, List.set_cons_succ, i64_w, i32_w]
      rfl
    refine pure_ (i := 12) (N := some 56) (v := ?_) (a' := ?_) #[true, true, true, true, true, true, true, true, true, true, true, true, true, false, false, false, false, false, false, false, false, false, false, false, false, false, false, false, false, false, false, false, false, false, false, false] rfl rfl (by kernel_rfl) (fun _ _ _ h => h) (Or.inl ⟨by rfl, ?_⟩) ?_ ?_
    rotate_left
    · intro w'
      go_simp
      with_reducible rfl
    rotate_left
    · simp only [Act.put, List.setIfInBounds_toArray, List.set_cons_zero, List.set_cons_succ, i64_w, i32_w]
      rfl
    refine pure_ (i := 13) (N := some 57) (v := ?_) (a' := ?_) #[true, true, true, true, true, true, true, true, true, true, true, true, true, true, false, false, false, false, false, false, false, false, false, false, false, false, false, false, false, false, false, false, false, false, false, false] rfl rfl (by kernel_rfl) (fun _ _ _ h => h) (Or.inl ⟨by rfl, ?_⟩) ?_ ?_
    rotate_left
    · intro w'
      go_simp
      with_reducible rfl
    rotate_left
    · simp only [Act.put, List.setIfInBounds_toArray, List.set_cons_zero, List.set_cons_succ, i64_w, i32_w]
      rfl
    refine pure_ (i := 14) (N := some 58) (v := ?_) (a' := ?_) #[true, true, true, true, true, true, true, true, true, true, true, true, true, true, true, false, false, false, false, false, false, false, false, false, false, false, false, false, false, false, false, false, false, false, false, false] rfl rfl (by kernel_rfl) (fun _ _ _ h => h) (Or.inl ⟨by rfl, ?_⟩) ?_ ?_
    rotate_left
    · intro w'
      go_simp
      with_reducible rfl
    rotate_left
    · simp only [Act.put, List.setIfInBounds_toArray, List.set_cons_zero, List.set_cons_succ, i64_w, i32_w]
      rfl
    refine pure_ (i := 15) (N := some 59) (v := ?_) (a' := ?_) #[true, true, true, true, true, true, true, true, true, true, true, true, true, true, true, true, false, false, false, false, false, false, false, false, false, false, false, false, false, false, false, false, false, false, false, false] rfl rfl (by kernel_rfl) (fun _ _ _ h => h) (Or.inl ⟨by rfl, ?_⟩) ?_ ?_
    rotate_left
    · intro w'
      go_simp
      with_reducible rfl
    rotate_left
    · simp only [Act.put, List.setIfInBounds_toArray, List.set_cons_zero, List.set_cons_succ, i64_w, i32_w]
      rfl
    refine pure_ (i := 16) (N := some 60) (v := ?_) (a' := ?_) #[true, true, true, true, true, true, true, true, true, true, true, true, true, true, true, true, true, false, false, false, false, false, false, false, false, false, false, false, false, false, false, false, false, false, false, false] rfl rfl (by kernel_rfl) (fun _ _ _ h => h) (Or.inl ⟨by rfl, ?_⟩) ?_ ?_
    rotate_left
    · intro w'
      go_simp
      with_reducible rfl
    rotate_left
    · simp only [Act.put, List.setIfInBounds_toArray, List.set_cons_zero, List.set_cons_succ, i64_w, i32_w]
      rfl
    refine pure_ (i := 17) (N := some 61) (v := ?_) (a' := ?_) #[true, true, true, true, true, true, true, true, true, true, true, true, true, true, true, true, true, true, false, false, false, false, false, false, false, false, false, false, false, false, false, false, false, false, false, false] rfl rfl (by kernel_rfl) (fun _ _ _ h => h) (Or.inl ⟨by rfl, ?_⟩) ?_ ?_
    rotate_left
    · intro w'
      go_simp
      with_reducible rfl
    rotate_left
    · simp only [Act.put, List.setIfInBounds_toArray, List.set_cons_zero, List.set_cons_succ, i64_w, i32_w]
      rfl
    refine pure_ (i := 18) (N := some 62) (v := ?_) (a' := ?_) #[true, true, true, true, true, true, true, true, true, true, true, true, true, true, true, true, true, true, true, false, false, false, false, false, false, false, false, false, false, false, false, false, false, false, false, false] rfl rfl (by kernel_rfl) (fun _ _ _ h => h) (Or.inl ⟨by rfl, ?_⟩) ?_ ?_
    rotate_left
    · intro w'
      go_simp
      with_reducible rfl
    rotate_left
    · simp only [Act.put, List.setIfInBounds_toArray, List.set_cons_zero, List.set_cons_succ, i64_w, i32_w]
      rfl
    refine pure_ (i := 19) (N := some 63) (v := ?_) (a' := ?_) #[true, true, true, true, true, true, true, true, true, true, true, true, true, true, true, true, true, true, true, true, false, false, false, false, false, false, false, false, false, false, false, false, false, false, false, false] rfl rfl (by kernel_rfl) (fun _ _ _ h => h) (Or.inl ⟨by rfl, ?_⟩) ?_ ?_
    rotate_left
    · intro w'
      go_simp
      with_reducible rfl
    rotate_left
    · simp only [Act.put, List.setIfInBounds_toArray, List.set_cons_zero, List.set_cons_succ, i64_w, i32_w]
      rfl
    refine pure_ (i := 20) (N := some 64) (v := ?_) (a' := ?_) #[true, true, true, true, true, true, true, true, true, true, true, true, true, true, true, true, true, true, true, true, true, false, false, false, false, false, false, false, false, false, false, false, false, false, false, false] rfl rfl (by kernel_rfl) (fun _ _ _ h => h) (Or.inl ⟨by rfl, ?_⟩) ?_ ?_
    rotate_left
    · intro w'
      go_simp
      with_reducible rfl
    rotate_left
    · simp only [Act.put, List.setIfInBounds_toArray, List.set_cons_zero, List.set_cons_succ, i64_w, i32_w]
      rfl
    refine pure_ (i := 21) (N := some 65) (v := ?_) (a' := ?_) #[true, true, true, true, true, true, true, true, true, true, true, true, true, true, true, true, true, true, true, true, true, true, false, false, false, false, false, false, false, false, false, false, false, false, false, false] rfl rfl (by kernel_rfl) (fun _ _ _ h => h) (Or.inl ⟨by rfl, ?_⟩) ?_ ?_
    rotate_left
    · intro w'
      go_simp
      with_reducible rfl
    rotate_left
    · simp only [Act.put, List.setIfInBounds_toArray, List.set_cons_zero, List.set_cons_succ, i64_w, i32_w]
      rfl
    refine pure_ (i := 22) (N := some 66) (v := ?_) (a' := ?_) #[true, true, true, true, true, true, true, true, true, true, true, true, true, true, true, true, true, true, true, true, true, true, true, false, false, false, false, false, false, false, false, false, false, false, false, false] rfl rfl (by kernel_rfl) (fun _ _ _ h => h) (Or.inl ⟨by rfl, ?_⟩) ?_ ?_
    rotate_left
    · intro w'
      go_simp
      with_reducible rfl
    rotate_left
    · simp only [Act.put, List.setIfInBounds_toArray, List.set_cons_zero, List.set_cons_succ, i64_w, i32_w]
      rfl
    refine pure_ (i := 23) (N := some 67) (v := ?_) (a' := ?_) #[true, true, true, true, true, true, true, true, true, true, true, true, true, true, true, true, true, true, true, true, true, true, true, true, false, false, false, false, false, false, false, false, false, false, false, false] rfl rfl (by kernel_rfl) (fun _ _ _ h => h) (Or.inl ⟨by rfl, ?_⟩) ?_ ?_
    rotate_left
    · intro w'
      go_simp
      with_reducible rfl
    rotate_left
    · simp only [Act.put, List.setIfInBounds_toArray, List.set_cons_zero, List.set_cons_succ, i64_w, i32_w]
      rfl
    refine pure_ (i := 25) (N := some 69) (v := ?_) (a' := ?_) #[true, true, true, true, true, true, true, true, true, true, true, true, true, true, true, true, true, true, true, true, true, true, true, true, false, true, false, false, false, false, false, false, false, false, false, false] rfl rfl (by kernel_rfl) (fun _ _ _ h => h) (Or.inl ⟨by rfl, ?_⟩) ?_ ?_
    rotate_left
    · intro w'
      go_simp
      with_reducible rfl
    rotate_left
    · simp only [Act.put, List.setIfInBounds_toArray, List.set_cons_zero, List.set_cons_succ, i64_w, i32_w]
      rfl
    refine pure_ (i := 28) (N := some 72) (v := ?_) (a' := ?_) #[true, true, true, true, true, true, true, true, true, true, true, true, true, true, true, true, true, true, true, true, true, true, true, true, false, true, false, false, true, false, false, false, false, false, false, false] rfl rfl (by kernel_rfl) (fun _ _ _ h => h) (Or.inl ⟨by rfl, ?_⟩) ?_ ?_
    rotate_left
    · intro w'
      go_simp
      with_reducible rfl
    rotate_left
    · simp only [Act.put, List.setIfInBounds_toArray, List.set_cons_zero, List.set_cons_succ, i64_w, i32_w]
      rfl
    refine take_ (i := 24) (N := some 68) (v := ?_) (a' := ?_) #[true, true, true, true, true, true, true, true, true, true, true, true, true, true, true, true, true, true, true, true, true, true, true, true, true, true, false, false, true, false, false, false, false, false, false, false] rfl rfl (by kernel_rfl) (fun _ _ _ h => h) (Or.inl ⟨by rfl, ?_⟩) hHeld ?_ ?_
    rotate_left
    · rintro w' ⟨s0, s1, s2, s3, s4, s5, s6, s7, s8, s9, s10, s11, s12, s13, s14, s15, s16, s17, s18, s19, s20, s21, s22, s23, s24, s25, s26, s27, s28, s29, s30, s31, s32, s33, s34, s35, s36, s37, s38, s39, s40⟩
      go_simp
      with_reducible rfl
    rotate_left
    · simp only [Act.put, List.setIfInBounds_toArray, List.set_cons_zero, List.set_cons_succ, i64_w, i32_w]
      rfl
    refine take_ (i := 27) (N := some 71) (v := ?_) (a' := ?_) #[true, true, true, true, true, true, true, true, true, true, true, true, true, true, true, true, true, true, true, true, true, true, true, true, true, true, false, true, true, false, false, false, false, false, false, false] rfl rfl (by kernel_rfl) (fun _ _ _ h => h) (Or.inl ⟨by rfl, ?_⟩) hHeld ?_ ?_
    rotate_left
    · rintro w' ⟨s0, s1, s2, s3, s4, s5, s6, s7, s8, s9, s10, s11, s12, s13, s14, s15, s16, s17, s18, s19, s20, s21, s22, s23, s24, s25, s26, s27, s28, s29, s30, s31, s32, s33, s34, s35, s36, s37, s38, s39, s40⟩
      go_simp
      with_reducible rfl
    rotate_left
    · simp only [Act.put, List.setIfInBounds_toArray, List.set_cons_zero, List.set_cons_succ, i64_w, i32_w]
      rfl
    refine one_ (i := 26) (N := some 70) #[true, true, true, true, true, true, true, true, true, true, true, true, true, true, true, true, true, true, true, true, true, true, true, true, true, true, true, true, true, false, false, false, false, false, false, false] rfl rfl (by kernel_rfl) (by decide) (fun K hK => ?_)
    refine goes_ Try.func11 (by kernel_rfl) rfl #[.agg #[.int .u16 a, .int .u16 l, .int .u16 q, .int .i64 z, .int .i64 eb, .int .i64 fb, .int .i64 su, .bool ext, .int .u16 idx, .bool held, .int .u16 b, .bool inh, .bool srv], .slice A0 xs.length c0] (by rfl) rfl rfl (by simp only [List.map_toArray, List.map_cons, List.map_nil]; rfl) ?_
    with_reducible refine (LP.out _ (Kd.C_below HR.out HB.out)).mono ?_
    rintro e w4 ⟨rfl, hbz⟩
    refine ⟨_, rfl, ?_⟩
    replace y0 := (hbz.cell (World.block_lt_of_cell? _ _ y0)).trans y0
    replace y1 := (hbz.cell (World.block_lt_of_cell? _ _ y1)).trans y1
    replace y2 := (hbz.cell (World.block_lt_of_cell? _ _ y2)).trans y2
    replace y3 := (hbz.cell (World.block_lt_of_cell? _ _ y3)).trans y3
    replace y4 := (hbz.cell (World.block_lt_of_cell? _ _ y4)).trans y4
    replace y5 := (hbz.cell (World.block_lt_of_cell? _ _ y5)).trans y5
    replace y6 := (hbz.cell (World.block_lt_of_cell? _ _ y6)).trans y6
    replace y7 := (hbz.cell (World.block_lt_of_cell? _ _ y7)).trans y7
    replace y8 := (hbz.cell (World.block_lt_of_cell? _ _ y8)).trans y8
    replace y9 := (hbz.cell (World.block_lt_of_cell? _ _ y9)).trans y9
    replace y10 := (hbz.cell (World.block_lt_of_cell? _ _ y10)).trans y10
    replace y11 := (hbz.cell (World.block_lt_of_cell? _ _ y11)).trans y11
    replace y12 := (hbz.cell (World.block_lt_of_cell? _ _ y12)).trans y12
    replace z0 := (hbz.cell (World.block_lt_of_cell? _ _ z0)).trans z0
    replace z1 := (hbz.cell (World.block_lt_of_cell? _ _ z1)).trans z1
    replace z2 := (hbz.cell (World.block_lt_of_cell? _ _ z2)).trans z2
    replace z3 := (hbz.cell (World.block_lt_of_cell? _ _ z3)).trans z3
    replace z4 := (hbz.cell (World.block_lt_of_cell? _ _ z4)).trans z4
    replace z5 := (hbz.cell (World.block_lt_of_cell? _ _ z5)).trans z5
    replace z6 := (hbz.cell (World.block_lt_of_cell? _ _ z6)).trans z6
    replace z7 := (hbz.cell (World.block_lt_of_cell? _ _ z7)).trans z7
    replace z8 := (hbz.cell (World.block_lt_of_cell? _ _ z8)).trans z8
    replace z9 := (hbz.cell (World.block_lt_of_cell? _ _ z9)).trans z9
    replace z10 := (hbz.cell (World.block_lt_of_cell? _ _ z10)).trans z10
    replace z11 := (hbz.cell (World.block_lt_of_cell? _ _ z11)).trans z11
    replace z12 := (hbz.cell (World.block_lt_of_cell? _ _ z12)).trans z12
    replace u9 := (hbz.cell (World.block_lt_of_cell? _ _ u9)).trans u9
    replace u14 := (hbz.cell (World.block_lt_of_cell? _ _ u14)).trans u14
    replace x0 := (hbz.cell (World.block_lt_of_cell? _ _ x0)).trans x0
    replace x1 := (hbz.cell (World.block_lt_of_cell? _ _ x1)).trans x1
    replace x2 := (hbz.cell (World.block_lt_of_cell? _ _ x2)).trans x2
    replace x3 := (hbz.cell (World.block_lt_of_cell? _ _ x3)).trans x3
    replace x4 := (hbz.cell (World.block_lt_of_cell? _ _ x4)).trans x4
    replace x5 := (hbz.cell (World.block_lt_of_cell? _ _ x5)).trans x5
    replace x6 := (hbz.cell (World.block_lt_of_cell? _ _ x6)).trans x6
    replace x7 := (hbz.cell (World.block_lt_of_cell? _ _ x7)).trans x7
    replace x8 := (hbz.cell (World.block_lt_of_cell? _ _ x8)).trans x8
    replace x9 := (hbz.cell (World.block_lt_of_cell? _ _ x9)).trans x9
    replace x10 := (hbz.cell (World.block_lt_of_cell? _ _ x10)).trans x10
    replace x11 := (hbz.cell (World.block_lt_of_cell? _ _ x11)).trans x11
    replace x12 := (hbz.cell (World.block_lt_of_cell? _ _ x12)).trans x12
    have HBn := Aside0.mk (below_step (by repeat (first | (with_reducible first | exact HB.out | apply below_alloc | apply pw_below_drewN | apply below_drew1) | exact HB.out)) hbz)
    clear HB
    have HB := HBn
    clear HBn
    clear hbz
    refine hK.out _ _ ⟨y0, y1, y2, y3, y4, y5, y6, y7, y8, y9, y10, y11, y12, z0, z1, z2, z3, z4, z5, z6, z7, z8, z9, z10, z11, z12, u9, u14, x0, x1, x2, x3, x4, x5, x6, x7, x8, x9, x10, x11, x12⟩ (fun hHeld => ?_)
    clear hK K
    refine norm_ (a' := ?_) ?_ ?_
    rotate_left
    · show Act.put _ (some 70) _ = _
      simp only [Act.put, List.setIfInBounds_toArray, List.set_cons_zero, List.set_cons_succ, i64_w, i32_w]
      rfl
    refine one_ (i := 29) (N := some 73) #[true, true, true, true, true, true, true, true, true, true, true, true, true, true, true, true, true, true, true, true, true, true, true, true, true, true, true, true, true, true, false, false, false, false, false, false] rfl rfl (by kernel_rfl) (by decide) (fun K hK => ?_)
    refine goes_ Try.func12 (by kernel_rfl) rfl #[.agg #[.int .u16 a, .int .u16 l, .int .u16 q, .int .i64 z, .int .i64 eb, .int .i64 fb, .int .i64 su, .bool ext, .int .u16 idx, .bool held, .int .u16 b, .bool inh, .bool srv], .slice A0 xs.length c0] (by rfl) rfl rfl (by simp only [List.map_toArray, List.map_cons, List.map_nil]; rfl) ?_
    with_reducible refine (LR.out _ (Kd.C_below HR.out HB.out)).mono ?_
    rintro e w6 ⟨rfl, hbz⟩
    refine ⟨_, rfl, ?_⟩
    replace y0 := (hbz.cell (World.block_lt_of_cell? _ _ y0)).trans y0
    replace y1 := (hbz.cell (World.block_lt_of_cell? _ _ y1)).trans y1
    replace y2 := (hbz.cell (World.block_lt_of_cell? _ _ y2)).trans y2
    replace y3 := (hbz.cell (World.block_lt_of_cell? _ _ y3)).trans y3
    replace y4 := (hbz.cell (World.block_lt_of_cell? _ _ y4)).trans y4
    replace y5 := (hbz.cell (World.block_lt_of_cell? _ _ y5)).trans y5
    replace y6 := (hbz.cell (World.block_lt_of_cell? _ _ y6)).trans y6
    replace y7 := (hbz.cell (World.block_lt_of_cell? _ _ y7)).trans y7
    replace y8 := (hbz.cell (World.block_lt_of_cell? _ _ y8)).trans y8
    replace y9 := (hbz.cell (World.block_lt_of_cell? _ _ y9)).trans y9
    replace y10 := (hbz.cell (World.block_lt_of_cell? _ _ y10)).trans y10
    replace y11 := (hbz.cell (World.block_lt_of_cell? _ _ y11)).trans y11
    replace y12 := (hbz.cell (World.block_lt_of_cell? _ _ y12)).trans y12
    replace z0 := (hbz.cell (World.block_lt_of_cell? _ _ z0)).trans z0
    replace z1 := (hbz.cell (World.block_lt_of_cell? _ _ z1)).trans z1
    replace z2 := (hbz.cell (World.block_lt_of_cell? _ _ z2)).trans z2
    replace z3 := (hbz.cell (World.block_lt_of_cell? _ _ z3)).trans z3
    replace z4 := (hbz.cell (World.block_lt_of_cell? _ _ z4)).trans z4
    replace z5 := (hbz.cell (World.block_lt_of_cell? _ _ z5)).trans z5
    replace z6 := (hbz.cell (World.block_lt_of_cell? _ _ z6)).trans z6
    replace z7 := (hbz.cell (World.block_lt_of_cell? _ _ z7)).trans z7
    replace z8 := (hbz.cell (World.block_lt_of_cell? _ _ z8)).trans z8
    replace z9 := (hbz.cell (World.block_lt_of_cell? _ _ z9)).trans z9
    replace z10 := (hbz.cell (World.block_lt_of_cell? _ _ z10)).trans z10
    replace z11 := (hbz.cell (World.block_lt_of_cell? _ _ z11)).trans z11
    replace z12 := (hbz.cell (World.block_lt_of_cell? _ _ z12)).trans z12
    replace u9 := (hbz.cell (World.block_lt_of_cell? _ _ u9)).trans u9
    replace u14 := (hbz.cell (World.block_lt_of_cell? _ _ u14)).trans u14
    replace x0 := (hbz.cell (World.block_lt_of_cell? _ _ x0)).trans x0
    replace x1 := (hbz.cell (World.block_lt_of_cell? _ _ x1)).trans x1
    replace x2 := (hbz.cell (World.block_lt_of_cell? _ _ x2)).trans x2
    replace x3 := (hbz.cell (World.block_lt_of_cell? _ _ x3)).trans x3
    replace x4 := (hbz.cell (World.block_lt_of_cell? _ _ x4)).trans x4
    replace x5 := (hbz.cell (World.block_lt_of_cell? _ _ x5)).trans x5
    replace x6 := (hbz.cell (World.block_lt_of_cell? _ _ x6)).trans x6
    replace x7 := (hbz.cell (World.block_lt_of_cell? _ _ x7)).trans x7
    replace x8 := (hbz.cell (World.block_lt_of_cell? _ _ x8)).trans x8
    replace x9 := (hbz.cell (World.block_lt_of_cell? _ _ x9)).trans x9
    replace x10 := (hbz.cell (World.block_lt_of_cell? _ _ x10)).trans x10
    replace x11 := (hbz.cell (World.block_lt_of_cell? _ _ x11)).trans x11
    replace x12 := (hbz.cell (World.block_lt_of_cell? _ _ x12)).trans x12
    have HBn := Aside0.mk (below_step (by repeat (first | (with_reducible first | exact HB.out | apply below_alloc | apply pw_below_drewN | apply below_drew1) | exact HB.out)) hbz)
    clear HB
    have HB := HBn
    clear HBn
    clear hbz
    refine hK.out _ _ ⟨y0, y1, y2, y3, y4, y5, y6, y7, y8, y9, y10, y11, y12, z0, z1, z2, z3, z4, z5, z6, z7, z8, z9, z10, z11, z12, u9, u14, x0, x1, x2, x3, x4, x5, x6, x7, x8, x9, x10, x11, x12⟩ (fun hHeld => ?_)
    clear hK K
    refine norm_ (a' := ?_) ?_ ?_
    rotate_left
    · show Act.put _ (some 73) _ = _
      simp only [Act.put, List.setIfInBounds_toArray, List.set_cons_zero, List.set_cons_succ, i64_w, i32_w]
      rfl
    refine pure_ (i := 30) (N := some 74) (v := ?_) (a' := ?_) #[true, true, true, true, true, true, true, true, true, true, true, true, true, true, true, true, true, true, true, true, true, true, true, true, true, true, true, true, true, true, true, false, false, false, false, false] rfl rfl (by kernel_rfl) (fun _ _ _ h => h) (Or.inl ⟨by rfl, ?_⟩) ?_ ?_
    rotate_left
    · intro w'
      go_simp
      with_reducible rfl
    rotate_left
    · simp only [Act.put, List.setIfInBounds_toArray, List.set_cons_zero, List.set_cons_succ, i64_w, i32_w]
      rfl
    refine pure_ (i := 31) (N := some 75) (v := ?_) (a' := ?_) #[true, true, true, true, true, true, true, true, true, true, true, true, true, true, true, true, true, true, true, true, true, true, true, true, true, true, true, true, true, true, true, true, false, false, false, false] rfl rfl (by kernel_rfl) (fun _ _ _ h => h) (Or.inl ⟨by rfl, ?_⟩) ?_ ?_
    rotate_left
    · intro w'
      go_simp
      with_reducible rfl
    rotate_left
    · simp only [Act.put, List.setIfInBounds_toArray, List.set_cons_zero, List.set_cons_succ, i64_w, i32_w]
      rfl
    refine pure_ (i := 32) (N := some 76) (v := ?_) (a' := ?_) #[true, true, true, true, true, true, true, true, true, true, true, true, true, true, true, true, true, true, true, true, true, true, true, true, true, true, true, true, true, true, true, true, true, false, false, false] rfl rfl (by kernel_rfl) (fun _ _ _ h => h) (Or.inl ⟨by rfl, ?_⟩) ?_ ?_
    rotate_left
    · intro w'
      go_simp
      with_reducible rfl
    rotate_left
    · simp only [Act.put, List.setIfInBounds_toArray, List.set_cons_zero, List.set_cons_succ, i64_w, i32_w]
      rfl
    refine one_ (i := 33) (N := some 77) #[true, true, true, true, true, true, true, true, true, true, true, true, true, true, true, true, true, true, true, true, true, true, true, true, true, true, true, true, true, true, true, true, true, true, false, false] rfl rfl (by kernel_rfl) (by decide) (fun K hK => ?_)
    refine goes_ Try.func13 (by kernel_rfl) rfl #[] (by rfl) rfl rfl (by simp) ?_
    with_reducible refine (works_c _).mono ?_
    rintro e w7 ⟨rfl, hbz⟩
    refine ⟨_, rfl, ?_⟩
    replace y0 := (hbz.cell (World.block_lt_of_cell? _ _ y0)).trans y0
    replace y1 := (hbz.cell (World.block_lt_of_cell? _ _ y1)).trans y1
    replace y2 := (hbz.cell (World.block_lt_of_cell? _ _ y2)).trans y2
    replace y3 := (hbz.cell (World.block_lt_of_cell? _ _ y3)).trans y3
    replace y4 := (hbz.cell (World.block_lt_of_cell? _ _ y4)).trans y4
    replace y5 := (hbz.cell (World.block_lt_of_cell? _ _ y5)).trans y5
    replace y6 := (hbz.cell (World.block_lt_of_cell? _ _ y6)).trans y6
    replace y7 := (hbz.cell (World.block_lt_of_cell? _ _ y7)).trans y7
    replace y8 := (hbz.cell (World.block_lt_of_cell? _ _ y8)).trans y8
    replace y9 := (hbz.cell (World.block_lt_of_cell? _ _ y9)).trans y9
    replace y10 := (hbz.cell (World.block_lt_of_cell? _ _ y10)).trans y10
    replace y11 := (hbz.cell (World.block_lt_of_cell? _ _ y11)).trans y11
    replace y12 := (hbz.cell (World.block_lt_of_cell? _ _ y12)).trans y12
    replace z0 := (hbz.cell (World.block_lt_of_cell? _ _ z0)).trans z0
    replace z1 := (hbz.cell (World.block_lt_of_cell? _ _ z1)).trans z1
    replace z2 := (hbz.cell (World.block_lt_of_cell? _ _ z2)).trans z2
    replace z3 := (hbz.cell (World.block_lt_of_cell? _ _ z3)).trans z3
    replace z4 := (hbz.cell (World.block_lt_of_cell? _ _ z4)).trans z4
    replace z5 := (hbz.cell (World.block_lt_of_cell? _ _ z5)).trans z5
    replace z6 := (hbz.cell (World.block_lt_of_cell? _ _ z6)).trans z6
    replace z7 := (hbz.cell (World.block_lt_of_cell? _ _ z7)).trans z7
    replace z8 := (hbz.cell (World.block_lt_of_cell? _ _ z8)).trans z8
    replace z9 := (hbz.cell (World.block_lt_of_cell? _ _ z9)).trans z9
    replace z10 := (hbz.cell (World.block_lt_of_cell? _ _ z10)).trans z10
    replace z11 := (hbz.cell (World.block_lt_of_cell? _ _ z11)).trans z11
    replace z12 := (hbz.cell (World.block_lt_of_cell? _ _ z12)).trans z12
    replace u9 := (hbz.cell (World.block_lt_of_cell? _ _ u9)).trans u9
    replace u14 := (hbz.cell (World.block_lt_of_cell? _ _ u14)).trans u14
    replace x0 := (hbz.cell (World.block_lt_of_cell? _ _ x0)).trans x0
    replace x1 := (hbz.cell (World.block_lt_of_cell? _ _ x1)).trans x1
    replace x2 := (hbz.cell (World.block_lt_of_cell? _ _ x2)).trans x2
    replace x3 := (hbz.cell (World.block_lt_of_cell? _ _ x3)).trans x3
    replace x4 := (hbz.cell (World.block_lt_of_cell? _ _ x4)).trans x4
    replace x5 := (hbz.cell (World.block_lt_of_cell? _ _ x5)).trans x5
    replace x6 := (hbz.cell (World.block_lt_of_cell? _ _ x6)).trans x6
    replace x7 := (hbz.cell (World.block_lt_of_cell? _ _ x7)).trans x7
    replace x8 := (hbz.cell (World.block_lt_of_cell? _ _ x8)).trans x8
    replace x9 := (hbz.cell (World.block_lt_of_cell? _ _ x9)).trans x9
    replace x10 := (hbz.cell (World.block_lt_of_cell? _ _ x10)).trans x10
    replace x11 := (hbz.cell (World.block_lt_of_cell? _ _ x11)).trans x11
    replace x12 := (hbz.cell (World.block_lt_of_cell? _ _ x12)).trans x12
    have HBn := Aside0.mk (below_step (by repeat (first | (with_reducible first | exact HB.out | apply below_alloc | apply pw_below_drewN | apply below_drew1) | exact HB.out)) hbz)
    clear HB
    have HB := HBn
    clear HBn
    clear hbz
    refine hK.out _ _ ⟨y0, y1, y2, y3, y4, y5, y6, y7, y8, y9, y10, y11, y12, z0, z1, z2, z3, z4, z5, z6, z7, z8, z9, z10, z11, z12, u9, u14, x0, x1, x2, x3, x4, x5, x6, x7, x8, x9, x10, x11, x12⟩ (fun hHeld => ?_)
    clear hK K
    refine norm_ (a' := ?_) ?_ ?_
    rotate_left
    · show Act.put _ (some 77) _ = _
      simp only [Act.put, List.setIfInBounds_toArray, List.set_cons_zero, List.set_cons_succ, i64_w, i32_w]
      rfl
    refine pure_ (i := 34) (N := some 78) (v := ?_) (a' := ?_) #[true, true, true, true, true, true, true, true, true, true, true, true, true, true, true, true, true, true, true, true, true, true, true, true, true, true, true, true, true, true, true, true, true, true, true, false] rfl rfl (by kernel_rfl) (fun _ _ _ h => h) (Or.inl ⟨by rfl, ?_⟩) ?_ ?_
    rotate_left
    · intro w'
      go_simp
      with_reducible rfl
    rotate_left
    · simp only [Act.put, List.setIfInBounds_toArray, List.set_cons_zero, List.set_cons_succ, i64_w, i32_w]
      rfl
    refine pure_ (i := 35) (N := some 6) (v := ?_) (a' := ?_) #[true, true, true, true, true, true, true, true, true, true, true, true, true, true, true, true, true, true, true, true, true, true, true, true, true, true, true, true, true, true, true, true, true, true, true, true] rfl rfl (by kernel_rfl) (fun _ _ _ h => h) (Or.inl ⟨by rfl, ?_⟩) ?_ ?_
    rotate_left
    · intro w'
      go_simp
      with_reducible rfl
    rotate_left
    · simp only [Act.put, List.setIfInBounds_toArray, List.set_cons_zero, List.set_cons_succ, i64_w, i32_w]
      rfl
    refine done_ (by kernel_rfl) ?_
    
    go_wp2
    go_ret
    exact ⟨rfl, by repeat (first | (with_reducible first | exact HB.out | apply below_alloc | apply pw_below_drewN | apply below_drew1) | exact HB.out)⟩
theorem wf16r {x : Int} (h : (Lit.int .u16 x).wf = true) : 0 ≤ x ∧ x < 65536 := by obtain ⟨n, rfl, h⟩ := wf16 h; omega
theorem changes_law (z0 : S25) (z1 : S27) (a2 : Option Addr) (len2 cap2 : Nat) (z2 : List Int) (w : World) (b0 : ((Lit.int .u16 z0.f0).wf = true ∧ (Lit.int .u16 z0.f1).wf = true ∧ (Lit.int .u16 z0.f2).wf = true ∧ (Lit.int .i64 z0.f3).wf = true ∧ (Lit.int .i64 z0.f4).wf = true ∧ (Lit.int .i64 z0.f5).wf = true ∧ (Lit.int .i64 z0.f6).wf = true ∧ True ∧ (Lit.int .u16 z0.f8).wf = true ∧ True ∧ (Lit.int .u16 z0.f10).wf = true ∧ True ∧ True)) (b1 : (Lit.int .u16 z1.f0).wf = true)
    (w2 : (a2 = none ∧ len2 = 0 ∧ cap2 = 0 ∧ z2 = []) ∨ ∃ x, a2 = some x ∧ len2 ≤ cap2 ∧ cap2 ≤ maxLen ∧ z2.length = cap2 ∧ (∀ i, i < z2.length → w.cell? (x.add i) = some (.int .u16 (z2.getD i 0))) ∧ ∀ n ∈ z2, (Lit.int .u16 n).wf = true) (y2 : len2 * 2 ≤ 140737488351232) :
    Calls Try.prog 3 #[.agg #[.int .u16 z0.f0, .int .u16 z0.f1, .int .u16 z0.f2, .int .i64 z0.f3, .int .i64 z0.f4, .int .i64 z0.f5, .int .i64 z0.f6, .bool z0.f7, .int .u16 z0.f8, .bool z0.f9, .int .u16 z0.f10, .bool z0.f11, .bool z0.f12], .agg #[.int .u16 z1.f0], .slice a2 len2 cap2] w fun e w' => e = .returned (.bool true) ∧ Below w.heap.size w w' := by
  obtain ⟨l2, rfl, hr2, hm2, hw2, hc2⟩ := ReadsInt.ofRowC w2
  have h0 := wf16r b0.1
  have h1 := wf16r b1
  exact changes_calls z0.f0 z0.f1 z0.f2 z0.f3 z0.f4 z0.f5 z0.f6 z0.f7 z0.f8 z0.f9 z0.f10 z0.f11 z0.f12 z1.f0 _ _ l2 w h1.1 h1.2 h0.1 h0.2 (Kd.C_of_reads (d := (0 : Int)) (h1 := fun _ => rfl) hr2) hc2 (fun x hx => wf16r (hw2 x hx))
end Go.Proofs.Ytejnppbkncfkeaa.Rup
