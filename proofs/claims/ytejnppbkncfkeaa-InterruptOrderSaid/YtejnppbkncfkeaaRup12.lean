/- The law InterruptOrder: pending interrupts are entered by ascending numbers, each once; for every list and address. -/
import Derived.Test.YtejnppbkncfkeaaRup6
import Derived.Test.YtejnppbkncfkeaaRup11
import Derived.Test.YtejnppbkncfkeaaOwn
namespace Go.Proofs.Ytejnppbkncfkeaa.Rup
open Go.RowKit Go.Proofs.Ytejnppbkncfkeaa.PAll Go.Proofs.YtejnppbkncfkeaaW.PrintWords Go.Proofs.YtejnppbkncfkeaaW.PrintLast Go.Proofs.YtejnppbkncfkeaaW.PrintMore Go.Proofs.Ytejnppbkncfkeaa.Plain Go.Proofs.Ytejnppbkncfkeaa.Lit Go.Proofs.Ytejnppbkncfkeaa.Own
set_option linter.unusedVariables false
set_option linter.unusedSimpArgs false
theorem infoU8 : (Try.prog.info? 5).map (fun i => (i.zero, i.size, i.bytes)) = some (some (.int .u8 0), 1, 1) := by kernel_rfl
theorem infoWord : (Try.prog.info? 24).map (fun i => (i.zero, i.size, i.bytes)) = some (some (.int .u16 0), 1, 2) := by kernel_rfl
def ops10 : Array (Nat × Operand) := #[(0, Operand.const (Value.int IntKind.i64 1)), (1, Operand.const (Value.int IntKind.i64 2)), (2, Operand.const (Value.int IntKind.i64 3)), (3, Operand.const (Value.int IntKind.i64 4)), (4, Operand.const (Value.int IntKind.i64 5)), (5, Operand.const (Value.int IntKind.i64 6)), (6, Operand.const (Value.int IntKind.i64 7)), (7, Operand.const (Value.int IntKind.i64 8)), (8, Operand.const (Value.int IntKind.i64 9)), (9, Operand.const (Value.int IntKind.i64 10))]
set_option maxHeartbeats 1000000 in
theorem lit10_run (a : Act) (o : Oper) (ho : o.op = .buildSlice 62 10 ops10) (W : World) : (execOp a.eval o).run Try.prog W = .ok (.value (.slice (some ⟨W.heap.size, 0, none⟩) 10 10)) (W.alloc (.cells #[.int .i64 1, .int .i64 2, .int .i64 3, .int .i64 4, .int .i64 5, .int .i64 6, .int .i64 7, .int .i64 8, .int .i64 9, .int .i64 10] 3)) := by
  unfold ops10 at ho
  obtain ⟨d, op, t, pos, af, g⟩ := o
  dsimp only at ho
  subst ho
  go_simp
theorem gstep {k g n : Nat} (h : k + (g + 1) = n) : k + 1 + g = n := by omega
theorem gnext {n : Int} {g : Nat} (h : 1 ≤ n ∧ n + ((g + 1 : Nat) : Int) = 11) : 1 ≤ n + 1 ∧ n + 1 + (g : Int) = 11 := by omega
theorem n10 (y : Int) : 1 ≤ 1 + y % 10 ∧ 1 + y % 10 ≤ 10 := by omega
theorem uy (y : Int) : wrap64 (y % 10) = y % 10 ∧ wrap64 (1 + y % 10) = 1 + y % 10 ∧ IntKind.i64.wrap (y % 10) = y % 10 := ⟨w64 (by omega) (by omega), w64 (by omega) (by omega), by rw [IntKind.wrap_i64]; omega⟩
theorem un {n : Int} (h : 1 ≤ n ∧ n ≤ 10) : wrap64 (n + 1) = n + 1 ∧ wrap64 (4 * n) = 4 * n ∧ wrap64 (2048 + 4 * n) = 2048 + 4 * n := ⟨w64 (by omega) (by omega), w64 (by omega) (by omega), w64 (by omega) (by omega)⟩
theorem nn {n : Int} (h : 1 ≤ n ∧ n ≤ 10) : 0 ≤ n ∧ n < 11 := by omega
theorem i30 {i k : Nat} (h : i < k) (h2 : (k : Int) ≤ 30) : wrap64 ((i : Int) + 1) = (i : Int) + 1 := w64 (by omega) (by omega)
theorem s64 {s : Int} (h : 0 ≤ s ∧ s < 2048) : s < 65536 := by omega
theorem rq64 (s n : Int) : 0 ≤ rq s n ∧ rq s n < 65536 := by have := sum_small fun i => decide (i = n) || wt s i; unfold rq; omega
theorem le64 (s n : Int) : 0 ≤ le s n ∧ le s n < 65536 := by have := sum_small fun i => !decide (i = n) && wt s i; unfold le; omega
theorem mayZ {Z : Int} (h : 0 ≤ Z ∧ Z < 4096) : mayB 0 0 Z 0 0 0 0 0 = true := by unfold mayB; exact decide_eq_true (by omega)
theorem wrZ {Z : Int} (h : 0 ≤ Z ∧ Z < 4096) : IntKind.u16.wrap Z = Z := by rw [IntKind.wrap_u16]; omega
theorem wrZ64 {Z : Int} (h : 0 ≤ Z ∧ Z < 4096) : IntKind.i64.wrap Z = Z := by rw [IntKind.wrap_i64]; omega
theorem leaveZ {Z : Int} (hZ : 0 ≤ Z ∧ Z < 4096) (n : Int) (A : Option Addr) (c : Nat) (w : World) (h : Kd.C (Kd.int .u16) w A 16 [0, 0, 0, 0, 0, 0, 0, 0, 0, 0, 0, 0, 0, Z, 0, 5]) (hc : 16 ≤ c) :
    Calls Try.prog 11 #[.agg #[.int .u16 0, .int .u16 0, .int .u16 0, .int .i64 (2048 + 4 * n), .int .i64 0, .int .i64 0, .int .i64 0, .bool false, .int .u16 0, .bool false, .int .u16 0, .bool false, .bool true], .slice A 16 c] w fun e w' => e = .returned (.agg #[.int .u16 0, .int .u16 0, .int .u16 0, .int .i64 Z, .int .i64 0, .int .i64 0, .int .i64 0, .bool false, .int .u16 0, .bool true, .int .u16 5, .bool false, .bool false]) ∧ Below w.heap.size w w' := by
  have t := Leave_c 0 0 0 (2048 + 4 * n) 0 0 0 false 0 false 0 false true A c [0, 0, 0, 0, 0, 0, 0, 0, 0, 0, 0, 0, 0, Z, 0, 5] w h hc (by intro x hx; simp at hx; omega)
  rw [show svN [0, 0, 0, 0, 0, 0, 0, 0, 0, 0, 0, 0, 0, Z, 0, 5] 13 % 4096 = Z by (show Z % 4096 = Z); omega, show svN [0, 0, 0, 0, 0, 0, 0, 0, 0, 0, 0, 0, 0, Z, 0, 5] 15 % 32768 = 5 by rfl] at t
  exact t
theorem cellsZ (Z : Int) : perilunelaw07_cells.f 20 [⟨13, Z⟩, ⟨15, 5⟩] [⟨13, Z⟩, ⟨15, 5⟩] = some true := by simp [perilunelaw07_cells.f, perilunelaw07_cells.l0, perilunelaw07_cells.j1, wrap64]
set_option maxRecDepth 100000 in
set_option maxHeartbeats 8000000 in
theorem order_calls (A0 : Option Addr) (c0 : Nat) (l0 : List Int) (zz : Int) (w : World) (z0 : 0 ≤ zz) (z1 : zz < 65536) (hr0 : Kd.C (Kd.int .u8) w A0 l0.length l0) (hc0 : l0.length ≤ c0) (hb0 : ∀ x ∈ l0, 0 ≤ x ∧ x < 256) :
    Calls Try.prog 5 #[.slice A0 l0.length c0, .int .u16 zz] w fun e w' => e = .returned (.bool true) ∧ Below w.heap.size w w' := by
  have HB := Aside0.mk (Below.refl w.heap.size w)
  obtain ⟨i3, hi3⟩ := info_some infoU8
  obtain ⟨j0, m, hj0, a00, a01, hm30, hmc, hq, hcut, hCm⟩ := cut_any (Kd.int .u8) 45 5 Try.underlying45 hi3 A0 c0 l0 hc0 30 (by decide) w hr0
  have hY : ∀ x ∈ m, 0 ≤ x ∧ x < 256 := by rw [hq]; exact fun x hx => hb0 x (List.mem_of_mem_take hx)
  replace hY := Lib.hid hY
  replace hm30 := Aside0.mk hm30
  have HM := Aside0.mk hCm
  have t0 : Int.tmod zz 4096 = zz % 4096 := Int.tmod_eq_emod_of_nonneg z0
  have Zr := Aside0.mk (show 0 ≤ zz % 4096 ∧ zz % 4096 < 4096 by omega)
  clear hr0 hb0 hi3 hq hCm hmc
  have PX := Lib.hid (show ∀ (w : World) (A : Option Addr) (c : Nat), Kd.C (Kd.int .i64) w A 10 [1, 2, 3, 4, 5, 6, 7, 8, 9, 10] → 10 ≤ c → Calls Try.prog 22 #[.slice A 10 c] w (fun e w' => e = .returned (.agg #[.int .u16 2046]) ∧ Below w.heap.size w w') from fun w A c h hc => perilunelaw07_pending.calls 20 A c [1, 2, 3, 4, 5, 6, 7, 8, 9, 10] 2046 w h hc (by kernel_rfl))
  have a0 := eq_true a00
  have a1 := eq_true a01
  clear a00 a01
  obtain ⟨Z, hZ⟩ : ∃ Z, zz % 4096 = Z := ⟨_, rfl⟩
  rw [hZ] at t0 Zr
  replace hZ := Lib.hid hZ
  have CE := Lib.hid (show ∀ (w : World) (A B : Option Addr) (c d : Nat), Kd.C k49 w A 2 [⟨13, Z⟩, ⟨15, 5⟩] → 2 ≤ c → Kd.C k49 w B 2 [⟨13, Z⟩, ⟨15, 5⟩] → 2 ≤ d → Calls Try.prog 23 #[.slice A 2 c, .slice B 2 d] w (fun e w' => e = .returned (.bool true) ∧ Drawn0 w w') from fun w A B c d h hc k hd => perilunelaw07_cells.calls 20 A c [⟨13, Z⟩, ⟨15, 5⟩] B d [⟨13, Z⟩, ⟨15, 5⟩] true w h hc k hd (cellsZ Z))
  go_enter Try.func5, Try.ntmps5
  go_upto_region 4 with fail
  clear hcut hj0 a0 a1
  have nB : Aside0 (Below w.heap.size w ((w.alloc (.cells #[.int .u16 0] 28)).alloc (.cells #[.bool false, .bool false, .bool false, .bool false, .bool false, .bool false, .bool false, .bool false, .bool false, .bool false, .bool false] 46))) := ⟨(below_alloc (below_alloc HB.out _) _)⟩
  have n5 : Aside0 ((World.heap (((w.alloc (.cells #[.int .u16 0] 28)).alloc (.cells #[.bool false, .bool false, .bool false, .bool false, .bool false, .bool false, .bool false, .bool false, .bool false, .bool false, .bool false] 46))))[w.heap.size]? = some (.cells #[.int .u16 0] 28 (0, 0))) := ⟨by have h := blk_alloc (blk_new w (.cells #[.int .u16 0] 28)) (.cells #[.bool false, .bool false, .bool false, .bool false, .bool false, .bool false, .bool false, .bool false, .bool false, .bool false, .bool false] 46); exact h⟩
  have n6 : Aside0 ((World.heap (((w.alloc (.cells #[.int .u16 0] 28)).alloc (.cells #[.bool false, .bool false, .bool false, .bool false, .bool false, .bool false, .bool false, .bool false, .bool false, .bool false, .bool false] 46))))[w.heap.size + 1]? = some (.cells #[.bool false, .bool false, .bool false, .bool false, .bool false, .bool false, .bool false, .bool false, .bool false, .bool false, .bool false] 46 (0, 0))) := ⟨by have h := blk_new (w.alloc (.cells #[.int .u16 0] 28)) (.cells #[.bool false, .bool false, .bool false, .bool false, .bool false, .bool false, .bool false, .bool false, .bool false, .bool false, .bool false] 46); rw [World.size_alloc] at h; exact h⟩
  clear HB 
  generalize ((w.alloc (.cells #[.int .u16 0] 28)).alloc (.cells #[.bool false, .bool false, .bool false, .bool false, .bool false, .bool false, .bool false, .bool false, .bool false, .bool false, .bool false] 46)) = w0 at nB n5 n6 ⊢
  obtain ⟨b5, hb5⟩ : ∃ x, w.heap.size = x := ⟨_, rfl⟩
  rw [hb5] at n5 n6 ⊢
  replace hb5 := Lib.hid hb5
  have HB := nB
  have K5 := n5
  have K6 := n6
  clear nB n5 n6
  have hge := Aside0.mk (show w.heap.size ≤ b5 by have := hb5.out; omega)
  go_wp2
  go_loopg [7] m.length (fun g v7 w' => ∃ (i : Nat) (p : Int → Bool) (s : Int), v7 = .int .i64 (i : Int) ∧ Aside0 (i + g = m.length) ∧ Aside0 (okS p s) ∧ Aside0 ((World.heap (w'))[b5]? = some (.cells #[.int .u16 s] 28 (0, 0))) ∧ Aside0 ((World.heap (w'))[b5 + 1]? = some (.cells (wantA p) 46 (0, 0))) ∧ Aside0 (Below w.heap.size w w'))
  case atStart => exact ⟨0, fun _ => false, 0, rfl, ⟨by omega⟩, ⟨okS_zero⟩, K5, K6, HB⟩
  case round =>
    clear K5 K6 HB
    obtain ⟨i, p, s, rfl, hg, hs, K5, K6, HB⟩ := hrel
    by_cases hlt : i < m.length
    · as_aux_lemma =>
      obtain ⟨g, rfl⟩ : ∃ g, gk = g + 1 := ⟨gk - 1, by have := hg.out; omega⟩
      have b0 : decide ((i : Int) < (m.length : Int)) = true := decide_eq_true (by omega)
      have b0' : decide (i < m.length) = true := decide_eq_true hlt
      obtain ⟨ad, eA, hx⟩ := Kd.at_int (Kd.C_below HM.out HB.out) (i : Int) (by omega) (by omega)
      cases eA
      rw [Int.toNat_natCast] at hx
      have hy := hY.out _ (show rd m i ∈ m by unfold rd; rw [Int.toNat_natCast, List.getD_eq_getElem?_getD, List.getElem?_eq_getElem hlt]; exact List.getElem_mem hlt)
      generalize rd m i = y at hx hy
      have nr := Aside0.mk (n10 y)
      have q0 := eq_true (Int.natCast_nonneg i)
      have q1 := eq_true (Int.ofNat_lt.mpr hlt)
      have q2 := eq_true hlt
      have i30 := i30 hlt hm30.out
      have t1 : Int.tmod y 10 = y % 10 := Int.tmod_eq_emod_of_nonneg hy.1
      have u1 := (uy y).1
      have u2 := (uy y).2.1
      have u4 := (uy y).2.2
      have u3 := i30
      go_upto_region 8 with fail
      generalize 1 + y % 10 = n at nr ⊢
      have P1 := Lib.hid fun (w : World) => interrupt_Request.calls s n (rq s n) 0 w ((pReq_f hs.out.1.1 (s64 hs.out.1)).trans (by unfold rqR; rw [if_pos nr.out]))
      have P2 := Lib.hid fun (w : World) => Waits_c (rq s n) n (rq64 s n).1 (rq64 s n).2 w
      rw [rq_wt nr.out.1 nr.out.2] at P2
      have hs2 := Aside0.mk (okS_rq (n := n) hs.out)
      have n0 := eq_true (nn nr.out).1
      have n1 := eq_true (nn nr.out).2
      clear hx hy t1 u1 u2 u4 hs q0 q1 q2 i30
      have u0 : wr.cell? ⟨b5, 0, none⟩ = some (.int .u16 s) := (blk_cell K5.out 0).trans rfl
      go_upto_region 9 with (first | (go_at_call 14; (with_reducible refine at_args #[.agg #[.int .u16 s], .int .i64 n] ?_); (with_reducible refine (P1.out _).mono ?_); rintro e w1 ⟨rfl, hbz⟩; have n5 := Aside0.mk (blk_below K5.out hbz); have n6 := Aside0.mk (blk_below K6.out hbz); clear K5 K6 u0; have K5 := n5; have K6 := n6; clear n5 n6; have HBn := Aside0.mk (below_step (by repeat (first | (with_reducible first | exact HB.out | apply below_alloc | apply pw_below_drewN | apply below_drew1) | exact HB.out)) hbz); clear HB; have HB := HBn; clear HBn; clear hbz))
      have n5 : Aside0 ((World.heap ((w1.alloc (.cells #[.int .u16 (rq s n)] 28))))[b5]? = some (.cells #[.int .u16 s] 28 (0, 0))) := ⟨(blk_alloc K5.out _)⟩
      have n6 : Aside0 ((World.heap ((w1.alloc (.cells #[.int .u16 (rq s n)] 28))))[b5 + 1]? = some (.cells (wantA p) 46 (0, 0))) := ⟨(blk_alloc K6.out _)⟩
      have nB : Aside0 (Below w.heap.size w (w1.alloc (.cells #[.int .u16 (rq s n)] 28))) := ⟨(below_alloc HB.out _)⟩
      have n9 : Aside0 ((World.heap ((w1.alloc (.cells #[.int .u16 (rq s n)] 28))))[w1.heap.size]? = some (.cells #[.int .u16 (rq s n)] 28 (0, 0))) := ⟨by have h := blk_new w1 (.cells #[.int .u16 (rq s n)] 28); exact h⟩
      clear HB K5 K6
      generalize (w1.alloc (.cells #[.int .u16 (rq s n)] 28)) = w2 at nB n5 n6 n9 ⊢
      obtain ⟨b9, hb9⟩ : ∃ x, w1.heap.size = x := ⟨_, rfl⟩
      rw [hb9] at n9 ⊢
      clear hb9
      have HB := nB
      have K5 := n5
      have K6 := n6
      have K9 := n9
      clear nB n5 n6 n9
      generalize rq s n = s' at P2 hs2 K9 ⊢
      clear P1
      have x0 : w2.cell? ⟨b9, 0, none⟩ = some (.int .u16 s') := (blk_cell K9.out 0).trans rfl
      go_wp2_with (first | (go_at_call 16; (with_reducible refine at_args #[.agg #[.int .u16 s'], .int .i64 n] ?_); (with_reducible refine (P2.out _).mono ?_); rintro e w3 ⟨rfl, hbz⟩; have n5 := Aside0.mk (blk_below K5.out hbz); have n6 := Aside0.mk (blk_below K6.out hbz); have n9 := Aside0.mk (blk_below K9.out hbz); clear K5 K6 K9 x0; have K5 := n5; have K6 := n6; have K9 := n9; clear n5 n6 n9; have HBn := Aside0.mk (below_step (by repeat (first | (with_reducible first | exact HB.out | apply below_alloc | apply pw_below_drewN | apply below_drew1) | exact HB.out)) hbz); clear HB; have HB := HBn; clear HBn; clear hbz; have u0 : w3.cell? ⟨b5, 0, none⟩ = some (.int .u16 s) := (blk_cell K5.out 0).trans rfl; have x0 : w3.cell? ⟨b9, 0, none⟩ = some (.int .u16 s') := (blk_cell K9.out 0).trans rfl; have va : w3.cell? ⟨b5 + 1, n.toNat, none⟩ = some (.bool (p n)) := (blk_cell K6.out n.toNat).trans (wantA_get p nr.out.1 nr.out.2); have g5 := blk_frozen K5.out; have g6 := blk_frozen K6.out))
      go_roundg g
      case measure => omega
      case rel => exact ⟨i + 1, setP p n, s', by simp [u3], ⟨gstep hg.out⟩, hs2, ⟨blk_far (blk_put K5.out 0 _ rfl) (by simp) _⟩, ⟨blk_put (blk_far K6.out (by simp) _) n.toNat _ (wantA_set p nr.out.1 nr.out.2)⟩, ⟨below_set (below_set HB.out hge.out) (Nat.le_succ_of_le hge.out)⟩⟩
    · have b0 : decide ((i : Int) < (m.length : Int)) = false := decide_eq_false (by omega)
      have b0' : decide (i < m.length) = false := decide_eq_false hlt
      have hs1 := Aside0.mk (okS_from hs.out)
      clear hg hs hlt
      have u4 := wrZ64 Zr.out
      go_upto_region 13 with fail
      have n5 : Aside0 ((World.heap ((wr.alloc (.cells #[.int .u16 0, .int .u16 0, .int .u16 0, .int .i64 Z, .int .i64 0, .int .i64 0, .int .i64 0, .bool false, .int .u16 0, .bool false, .int .u16 0, .bool false, .bool false] 26))))[b5]? = some (.cells #[.int .u16 s] 28 (0, 0))) := ⟨(blk_alloc K5.out _)⟩
      have n6 : Aside0 ((World.heap ((wr.alloc (.cells #[.int .u16 0, .int .u16 0, .int .u16 0, .int .i64 Z, .int .i64 0, .int .i64 0, .int .i64 0, .bool false, .int .u16 0, .bool false, .int .u16 0, .bool false, .bool false] 26))))[b5 + 1]? = some (.cells (wantA p) 46 (0, 0))) := ⟨(blk_alloc K6.out _)⟩
      have nB : Aside0 (Below w.heap.size w (wr.alloc (.cells #[.int .u16 0, .int .u16 0, .int .u16 0, .int .i64 Z, .int .i64 0, .int .i64 0, .int .i64 0, .bool false, .int .u16 0, .bool false, .int .u16 0, .bool false, .bool false] 26))) := ⟨(below_alloc HB.out _)⟩
      have n11 : Aside0 ((World.heap ((wr.alloc (.cells #[.int .u16 0, .int .u16 0, .int .u16 0, .int .i64 Z, .int .i64 0, .int .i64 0, .int .i64 0, .bool false, .int .u16 0, .bool false, .int .u16 0, .bool false, .bool false] 26))))[wr.heap.size]? = some (.cells #[.int .u16 0, .int .u16 0, .int .u16 0, .int .i64 Z, .int .i64 0, .int .i64 0, .int .i64 0, .bool false, .int .u16 0, .bool false, .int .u16 0, .bool false, .bool false] 26 (0, 0))) := ⟨by have h := blk_new wr (.cells #[.int .u16 0, .int .u16 0, .int .u16 0, .int .i64 Z, .int .i64 0, .int .i64 0, .int .i64 0, .bool false, .int .u16 0, .bool false, .int .u16 0, .bool false, .bool false] 26); exact h⟩
      clear HB K5 K6
      generalize (wr.alloc (.cells #[.int .u16 0, .int .u16 0, .int .u16 0, .int .i64 Z, .int .i64 0, .int .i64 0, .int .i64 0, .bool false, .int .u16 0, .bool false, .int .u16 0, .bool false, .bool false] 26)) = w20 at nB n5 n6 n11 ⊢
      obtain ⟨b11, hb11⟩ : ∃ x, wr.heap.size = x := ⟨_, rfl⟩
      rw [hb11] at n11 ⊢
      clear hb11
      have HB := nB
      have K5 := n5
      have K6 := n6
      have K11 := n11
      clear nB n5 n6 n11
      go_wp2
      go_loopg [12] 10 (fun g v12 w' => ∃ (n s : Int), v12 = .int .i64 n ∧ Aside0 (1 ≤ n ∧ n + g = 11) ∧ Aside0 (okS (fromP p n) s) ∧ Aside0 ((World.heap (w'))[b5]? = some (.cells #[.int .u16 s] 28 (0, 0))) ∧ Aside0 ((World.heap (w'))[b5 + 1]? = some (.cells (wantA p) 46 (0, 0))) ∧ Aside0 ((World.heap (w'))[b11]? = some (.cells #[.int .u16 0, .int .u16 0, .int .u16 0, .int .i64 Z, .int .i64 0, .int .i64 0, .int .i64 0, .bool false, .int .u16 0, .bool false, .int .u16 0, .bool false, .bool false] 26 (0, 0))) ∧ Aside0 (Below w.heap.size w w'))
      case atStart => exact ⟨1, s, rfl, ⟨by decide, by decide⟩, hs1, K5, K6, K11, HB⟩
      case round =>
        as_aux_lemma =>
        clear K5 K6 K11 HB hs1
        obtain ⟨n, s, rfl, hg, hs, K5, K6, K11, HB⟩ := hrel
        by_cases hlt : n ≤ 10
        · obtain ⟨g, rfl⟩ : ∃ g, gk = g + 1 := ⟨gk - 1, by have := hg.out; omega⟩
          have b1 : decide (n ≤ 10) = true := decide_eq_true hlt
          have nr := Aside0.mk (show 1 ≤ n ∧ n ≤ 10 by have := hg.out; omega)
          have n0 := eq_true (nn nr.out).1
          have n1 := eq_true (nn nr.out).2
          have u5 := (un nr.out).1
          have P1 := Lib.hid fun (w : World) => Waits_c s n hs.out.1.1 (s64 hs.out.1) w
          rw [okS_wt hs.out nr.out.1 nr.out.2] at P1
          clear hlt
          cases hpn : p n with
          | false =>
            as_aux_lemma =>
            rw [hpn] at P1
            have hs2 := Aside0.mk (okS_skip hs.out hpn)
            go_upto_region 16 with fail
            have u0 : wr.cell? ⟨b5, 0, none⟩ = some (.int .u16 s) := (blk_cell K5.out 0).trans rfl
            have va : wr.cell? ⟨b5 + 1, n.toNat, none⟩ = some (.bool false) := (blk_cell K6.out n.toNat).trans (by rw [wantA_get p nr.out.1 nr.out.2, hpn])
            replace hpn := Lib.hid hpn
            refine start_ (n := 7) (S := fun w' => w'.cell? ⟨b5, 0, none⟩ = some (.int .u16 s) ∧ w'.cell? ⟨b5 + 1, n.toNat, none⟩ = some (.bool false)) (ds := []) #[false, false, false, false, false, false, false] (by kernel_rfl) rfl rfl ⟨u0, va⟩ (fun hHeld => ?_)
            replace K5 : Aside0 ((World.heap (wr.drew))[b5]? = some (.cells #[.int .u16 s] 28 (0, 0))) := ⟨blk_drew K5.out⟩
            replace K6 : Aside0 ((World.heap (wr.drew))[b5 + 1]? = some (.cells (wantA p) 46 (0, 0))) := ⟨blk_drew K6.out⟩
            replace K11 : Aside0 ((World.heap (wr.drew))[b11]? = some (.cells #[.int .u16 0, .int .u16 0, .int .u16 0, .int .i64 Z, .int .i64 0, .int .i64 0, .int .i64 0, .bool false, .int .u16 0, .bool false, .int .u16 0, .bool false, .bool false] 26 (0, 0))) := ⟨blk_drew K11.out⟩
            replace HB : Aside0 (Below w.heap.size w wr.drew) := ⟨below_drew1 HB.out⟩
            change wr.drew.cell? _ = _ at u0
            change wr.drew.cell? _ = _ at va
            generalize wr.drew = wd at HB u0 va K5 K6 K11 hHeld ⊢
            refine pure_ (i := 1) (N := some 68) (v := ?_) (a' := ?_) #[false, true, false, false, false, false, false] rfl rfl (by kernel_rfl) (fun _ _ _ h => h) (Or.inl ⟨by rfl, ?_⟩) ?_ ?_
            rotate_left
            · intro w'
              go_simp
              with_reducible rfl
            rotate_left
            · simp only [Act.put, List.setIfInBounds_toArray, List.set_cons_zero, List.set_cons_succ, i64_w, i32_w]
              rfl
            refine pure_ (i := 3) (N := some 70) (v := ?_) (a' := ?_) #[false, true, false, true, false, false, false] rfl rfl (by kernel_rfl) (fun _ _ _ h => h) (Or.inl ⟨by rfl, ?_⟩) ?_ ?_
            rotate_left
            · intro w'
              go_simp
              with_reducible rfl
            rotate_left
            · simp only [Act.put, List.setIfInBounds_toArray, List.set_cons_zero, List.set_cons_succ, i64_w, i32_w]
              rfl
            refine pure_ (i := 4) (N := some 71) (v := ?_) (a' := ?_) #[false, true, false, true, true, false, false] rfl rfl (by kernel_rfl) (fun _ _ _ h => h) (Or.inl ⟨by rfl, ?_⟩) ?_ ?_
            rotate_left
            · intro w'
              go_simp
              with_reducible rfl
            rotate_left
            · simp only [Act.put, List.setIfInBounds_toArray, List.set_cons_zero, List.set_cons_succ, i64_w, i32_w]
              rfl
            refine take_ (i := 0) (N := some 67) (v := ?_) (a' := ?_) #[true, true, false, true, true, false, false] rfl rfl (by kernel_rfl) (fun _ _ _ h => h) (Or.inl ⟨by rfl, ?_⟩) hHeld ?_ ?_
            rotate_left
            · rintro w' ⟨s0, s1⟩
              go_simp
              with_reducible rfl
            rotate_left
            · simp only [Act.put, List.setIfInBounds_toArray, List.set_cons_zero, List.set_cons_succ, i64_w, i32_w]
              rfl
            refine take_ (i := 5) (N := some 72) (v := ?_) (a' := ?_) #[true, true, false, true, true, true, false] rfl rfl (by kernel_rfl) (fun _ _ _ h => h) (Or.inl ⟨by rfl, ?_⟩) hHeld ?_ ?_
            rotate_left
            · rintro w' ⟨s0, s1⟩
              go_simp
              with_reducible rfl
            rotate_left
            · simp only [Act.put, List.setIfInBounds_toArray, List.set_cons_zero, List.set_cons_succ, i64_w, i32_w]
              rfl
            refine one_ (i := 2) (N := some 69) #[true, true, true, true, true, true, false] rfl rfl (by kernel_rfl) (by decide) (fun K hK => ?_)
            refine goes_ Try.func16 (by kernel_rfl) rfl #[.agg #[.int .u16 s], .int .i64 n] (by rfl) rfl rfl (by simp only [List.map_toArray, List.map_cons, List.map_nil]; rfl) ?_
            with_reducible refine (P1.out _).mono ?_
            rintro e w21 ⟨rfl, hbz⟩
            refine ⟨_, rfl, ?_⟩
            replace u0 := (hbz.cell (World.block_lt_of_cell? _ _ u0)).trans u0
            replace va := (hbz.cell (World.block_lt_of_cell? _ _ va)).trans va
            replace K5 := Aside0.mk (blk_below K5.out hbz)
            replace K6 := Aside0.mk (blk_below K6.out hbz)
            replace K11 := Aside0.mk (blk_below K11.out hbz)
            have HBn := Aside0.mk (below_step (by repeat (first | (with_reducible first | exact HB.out | apply below_alloc | apply pw_below_drewN | apply below_drew1) | exact HB.out)) hbz)
            clear HB
            have HB := HBn
            clear HBn
            clear hbz
            refine hK.out _ _ ⟨u0, va⟩ (fun hHeld => ?_)
            clear hK K
            refine norm_ (a' := ?_) ?_ ?_
            rotate_left
            · show Act.put _ (some 69) _ = _
              simp only [Act.put, List.setIfInBounds_toArray, List.set_cons_zero, List.set_cons_succ, i64_w, i32_w]
              rfl
            refine pure_ (i := 6) (N := some 73) (v := ?_) (a' := ?_) #[true, true, true, true, true, true, true] rfl rfl (by kernel_rfl) (fun _ _ _ h => h) (Or.inl ⟨by rfl, ?_⟩) ?_ ?_
            rotate_left
            · intro w'
              go_simp
              with_reducible rfl
            rotate_left
            · simp only [Act.put, List.setIfInBounds_toArray, List.set_cons_zero, List.set_cons_succ, i64_w, i32_w]
              rfl
            refine done_ (by kernel_rfl) ?_
            
            go_wp2
            go_roundg g
            case measure => omega
            case rel => exact ⟨n + 1, s, by simp [u5], ⟨(gnext hg.out).1, (gnext hg.out).2⟩, hs2, K5, K6, K11, HB⟩
          | true =>
            as_aux_lemma =>
            rw [hpn] at P1
            have hch := okS_ch hs.out nr.out.1 nr.out.2 hpn
            have hs2 := Aside0.mk (okS_le hs.out)
            have EN := Lib.hid fun (w : World) => Enter_c3 0 0 0 Z 0 0 0 false 0 false 0 false false s 5 n hs.out.1.1 (s64 hs.out.1) (by decide) (by decide) (mayZ Zr.out) (by decide) hch w
            rw [wrZ Zr.out, show (5 : Int) % 32768 = 5 by decide] at EN
            have CH := Lib.hid fun (w : World) => Choose_c 2046 0 0 0 (2048 + 4 * n) 0 0 0 false 0 false 0 false true (by decide) (by decide) w
            rw [show (if alB 0 0 false false false true = true then chR (chI 2046) else (0, false)) = (0, false) by decide] at CH
            have WL := Lib.hid fun (w : World) => Waits_c (le s n) n (le64 s n).1 (le64 s n).2 w
            rw [le_wt nr.out.1 nr.out.2] at WL
            go_upto_region 16 with fail
            have u0 : wr.cell? ⟨b5, 0, none⟩ = some (.int .u16 s) := (blk_cell K5.out 0).trans rfl
            have va : wr.cell? ⟨b5 + 1, n.toNat, none⟩ = some (.bool true) := (blk_cell K6.out n.toNat).trans (by rw [wantA_get p nr.out.1 nr.out.2, hpn])
            replace hpn := Lib.hid hpn
            replace hch := Lib.hid hch
            refine start_ (n := 7) (S := fun w' => w'.cell? ⟨b5, 0, none⟩ = some (.int .u16 s) ∧ w'.cell? ⟨b5 + 1, n.toNat, none⟩ = some (.bool true)) (ds := []) #[false, false, false, false, false, false, false] (by kernel_rfl) rfl rfl ⟨u0, va⟩ (fun hHeld => ?_)
            replace K5 : Aside0 ((World.heap (wr.drew))[b5]? = some (.cells #[.int .u16 s] 28 (0, 0))) := ⟨blk_drew K5.out⟩
            replace K6 : Aside0 ((World.heap (wr.drew))[b5 + 1]? = some (.cells (wantA p) 46 (0, 0))) := ⟨blk_drew K6.out⟩
            replace K11 : Aside0 ((World.heap (wr.drew))[b11]? = some (.cells #[.int .u16 0, .int .u16 0, .int .u16 0, .int .i64 Z, .int .i64 0, .int .i64 0, .int .i64 0, .bool false, .int .u16 0, .bool false, .int .u16 0, .bool false, .bool false] 26 (0, 0))) := ⟨blk_drew K11.out⟩
            replace HB : Aside0 (Below w.heap.size w wr.drew) := ⟨below_drew1 HB.out⟩
            change wr.drew.cell? _ = _ at u0
            change wr.drew.cell? _ = _ at va
            generalize wr.drew = wd at HB u0 va K5 K6 K11 hHeld ⊢
            refine pure_ (i := 1) (N := some 68) (v := ?_) (a' := ?_) #[false, true, false, false, false, false, false] rfl rfl (by kernel_rfl) (fun _ _ _ h => h) (Or.inl ⟨by rfl, ?_⟩) ?_ ?_
            rotate_left
            · intro w'
              go_simp
              with_reducible rfl
            rotate_left
            · simp only [Act.put, List.setIfInBounds_toArray, List.set_cons_zero, List.set_cons_succ, i64_w, i32_w]
              rfl
            refine pure_ (i := 3) (N := some 70) (v := ?_) (a' := ?_) #[false, true, false, true, false, false, false] rfl rfl (by kernel_rfl) (fun _ _ _ h => h) (Or.inl ⟨by rfl, ?_⟩) ?_ ?_
            rotate_left
            · intro w'
              go_simp
              with_reducible rfl
            rotate_left
            · simp only [Act.put, List.setIfInBounds_toArray, List.set_cons_zero, List.set_cons_succ, i64_w, i32_w]
              rfl
            refine pure_ (i := 4) (N := some 71) (v := ?_) (a' := ?_) #[false, true, false, true, true, false, false] rfl rfl (by kernel_rfl) (fun _ _ _ h => h) (Or.inl ⟨by rfl, ?_⟩) ?_ ?_
            rotate_left
            · intro w'
              go_simp
              with_reducible rfl
            rotate_left
            · simp only [Act.put, List.setIfInBounds_toArray, List.set_cons_zero, List.set_cons_succ, i64_w, i32_w]
              rfl
            refine take_ (i := 0) (N := some 67) (v := ?_) (a' := ?_) #[true, true, false, true, true, false, false] rfl rfl (by kernel_rfl) (fun _ _ _ h => h) (Or.inl ⟨by rfl, ?_⟩) hHeld ?_ ?_
            rotate_left
            · rintro w' ⟨s0, s1⟩
              go_simp
              with_reducible rfl
            rotate_left
            · simp only [Act.put, List.setIfInBounds_toArray, List.set_cons_zero, List.set_cons_succ, i64_w, i32_w]
              rfl
            refine take_ (i := 5) (N := some 72) (v := ?_) (a' := ?_) #[true, true, false, true, true, true, false] rfl rfl (by kernel_rfl) (fun _ _ _ h => h) (Or.inl ⟨by rfl, ?_⟩) hHeld ?_ ?_
            rotate_left
            · rintro w' ⟨s0, s1⟩
              go_simp
              with_reducible rfl
            rotate_left
            · simp only [Act.put, List.setIfInBounds_toArray, List.set_cons_zero, List.set_cons_succ, i64_w, i32_w]
              rfl
            refine one_ (i := 2) (N := some 69) #[true, true, true, true, true, true, false] rfl rfl (by kernel_rfl) (by decide) (fun K hK => ?_)
            refine goes_ Try.func16 (by kernel_rfl) rfl #[.agg #[.int .u16 s], .int .i64 n] (by rfl) rfl rfl (by simp only [List.map_toArray, List.map_cons, List.map_nil]; rfl) ?_
            with_reducible refine (P1.out _).mono ?_
            rintro e w21 ⟨rfl, hbz⟩
            refine ⟨_, rfl, ?_⟩
            replace u0 := (hbz.cell (World.block_lt_of_cell? _ _ u0)).trans u0
            replace va := (hbz.cell (World.block_lt_of_cell? _ _ va)).trans va
            replace K5 := Aside0.mk (blk_below K5.out hbz)
            replace K6 := Aside0.mk (blk_below K6.out hbz)
            replace K11 := Aside0.mk (blk_below K11.out hbz)
            have HBn := Aside0.mk (below_step (by repeat (first | (with_reducible first | exact HB.out | apply below_alloc | apply pw_below_drewN | apply below_drew1) | exact HB.out)) hbz)
            clear HB
            have HB := HBn
            clear HBn
            clear hbz
            refine hK.out _ _ ⟨u0, va⟩ (fun hHeld => ?_)
            clear hK K
            refine norm_ (a' := ?_) ?_ ?_
            rotate_left
            · show Act.put _ (some 69) _ = _
              simp only [Act.put, List.setIfInBounds_toArray, List.set_cons_zero, List.set_cons_succ, i64_w, i32_w]
              rfl
            refine pure_ (i := 6) (N := some 73) (v := ?_) (a' := ?_) #[true, true, true, true, true, true, true] rfl rfl (by kernel_rfl) (fun _ _ _ h => h) (Or.inl ⟨by rfl, ?_⟩) ?_ ?_
            rotate_left
            · intro w'
              go_simp
              with_reducible rfl
            rotate_left
            · simp only [Act.put, List.setIfInBounds_toArray, List.set_cons_zero, List.set_cons_succ, i64_w, i32_w]
              rfl
            refine done_ (by kernel_rfl) ?_
            
            go_upto_region 19 with fail
            clear va u0
            have u0 : w21.cell? ⟨b5, 0, none⟩ = some (.int .u16 s) := (blk_cell K5.out 0).trans rfl
            have v0 : w21.cell? ⟨b11, 0, none⟩ = some (.int .u16 0) := (blk_cell K11.out 0).trans rfl
            have v1 : w21.cell? ⟨b11, 1, none⟩ = some (.int .u16 0) := (blk_cell K11.out 1).trans rfl
            have v2 : w21.cell? ⟨b11, 2, none⟩ = some (.int .u16 0) := (blk_cell K11.out 2).trans rfl
            have v3 : w21.cell? ⟨b11, 3, none⟩ = some (.int .i64 Z) := (blk_cell K11.out 3).trans rfl
            have v4 : w21.cell? ⟨b11, 4, none⟩ = some (.int .i64 0) := (blk_cell K11.out 4).trans rfl
            have v5 : w21.cell? ⟨b11, 5, none⟩ = some (.int .i64 0) := (blk_cell K11.out 5).trans rfl
            have v6 : w21.cell? ⟨b11, 6, none⟩ = some (.int .i64 0) := (blk_cell K11.out 6).trans rfl
            have v7 : w21.cell? ⟨b11, 7, none⟩ = some (.bool false) := (blk_cell K11.out 7).trans rfl
            have v8 : w21.cell? ⟨b11, 8, none⟩ = some (.int .u16 0) := (blk_cell K11.out 8).trans rfl
            have v9 : w21.cell? ⟨b11, 9, none⟩ = some (.bool false) := (blk_cell K11.out 9).trans rfl
            have v10 : w21.cell? ⟨b11, 10, none⟩ = some (.int .u16 0) := (blk_cell K11.out 10).trans rfl
            have v11 : w21.cell? ⟨b11, 11, none⟩ = some (.bool false) := (blk_cell K11.out 11).trans rfl
            have v12 : w21.cell? ⟨b11, 12, none⟩ = some (.bool false) := (blk_cell K11.out 12).trans rfl
            go_upto_region 20 with (first | (go_at_call 8; (with_reducible refine at_args #[.agg #[.int .u16 0, .int .u16 0, .int .u16 0, .int .i64 Z, .int .i64 0, .int .i64 0, .int .i64 0, .bool false, .int .u16 0, .bool false, .int .u16 0, .bool false, .bool false], .agg #[.int .u16 s], .int .u16 5] ?_); (with_reducible refine (EN.out _).mono ?_); rintro e w5 ⟨v, rfl, hR, hbz⟩; obtain ⟨gc, kc, rfl, hgc1, hgc2, csC, hbC⟩ := Kd.R_form hR (Nat.zero_lt_succ _); have C1 := Aside0.mk (show Kd.C k49 w5 (some ⟨gc, 0, none⟩) 2 [⟨13, Z⟩, ⟨15, 5⟩] from (Kd.R_reads' hR).2.2); have KC := Aside0.mk hbC; have hkc := Aside0.mk (show 2 ≤ kc from (Kd.R_reads' hR).2.1); clear hR hgc1 hgc2 hbC; have n5 := Aside0.mk (blk_below K5.out hbz); have n6 := Aside0.mk (blk_below K6.out hbz); have n11 := Aside0.mk (blk_below K11.out hbz); clear K5 K6 K11 u0 v0 v1 v2 v3 v4 v5 v6 v7 v8 v9 v10 v11 v12; have K5 := n5; have K6 := n6; have K11 := n11; clear n5 n6 n11; have HBn := Aside0.mk (below_step (by repeat (first | (with_reducible first | exact HB.out | apply below_alloc | apply pw_below_drewN | apply below_drew1) | exact HB.out)) hbz); clear HB; have HB := HBn; clear HBn; clear hbz))
            have n5 : Aside0 ((World.heap (((w5.alloc (.cells #[.int .u16 0, .int .u16 0, .int .u16 0, .int .i64 (2048 + 4 * n), .int .i64 0, .int .i64 0, .int .i64 0, .bool false, .int .u16 0, .bool false, .int .u16 0, .bool false, .bool true] 26)).alloc (.cells #[.int .u16 (le s n)] 28))))[b5]? = some (.cells #[.int .u16 s] 28 (0, 0))) := ⟨(blk_alloc (blk_alloc K5.out _) _)⟩
            have n6 : Aside0 ((World.heap (((w5.alloc (.cells #[.int .u16 0, .int .u16 0, .int .u16 0, .int .i64 (2048 + 4 * n), .int .i64 0, .int .i64 0, .int .i64 0, .bool false, .int .u16 0, .bool false, .int .u16 0, .bool false, .bool true] 26)).alloc (.cells #[.int .u16 (le s n)] 28))))[b5 + 1]? = some (.cells (wantA p) 46 (0, 0))) := ⟨(blk_alloc (blk_alloc K6.out _) _)⟩
            have n11 : Aside0 ((World.heap (((w5.alloc (.cells #[.int .u16 0, .int .u16 0, .int .u16 0, .int .i64 (2048 + 4 * n), .int .i64 0, .int .i64 0, .int .i64 0, .bool false, .int .u16 0, .bool false, .int .u16 0, .bool false, .bool true] 26)).alloc (.cells #[.int .u16 (le s n)] 28))))[b11]? = some (.cells #[.int .u16 0, .int .u16 0, .int .u16 0, .int .i64 Z, .int .i64 0, .int .i64 0, .int .i64 0, .bool false, .int .u16 0, .bool false, .int .u16 0, .bool false, .bool false] 26 (0, 0))) := ⟨(blk_alloc (blk_alloc K11.out _) _)⟩
            have nC : Aside0 ((World.heap (((w5.alloc (.cells #[.int .u16 0, .int .u16 0, .int .u16 0, .int .i64 (2048 + 4 * n), .int .i64 0, .int .i64 0, .int .i64 0, .bool false, .int .u16 0, .bool false, .int .u16 0, .bool false, .bool true] 26)).alloc (.cells #[.int .u16 (le s n)] 28))))[gc]? = some (.cells csC 49 (0, 0))) := ⟨(blk_alloc (blk_alloc KC.out _) _)⟩
            have nC1 : Aside0 (Kd.C k49 ((w5.alloc (.cells #[.int .u16 0, .int .u16 0, .int .u16 0, .int .i64 (2048 + 4 * n), .int .i64 0, .int .i64 0, .int .i64 0, .bool false, .int .u16 0, .bool false, .int .u16 0, .bool false, .bool true] 26)).alloc (.cells #[.int .u16 (le s n)] 28)) (some ⟨gc, 0, none⟩) 2 [⟨13, Z⟩, ⟨15, 5⟩]) := ⟨(Kd.C_alloc (Kd.C_alloc C1.out _) _)⟩
            have nB : Aside0 (Below w.heap.size w ((w5.alloc (.cells #[.int .u16 0, .int .u16 0, .int .u16 0, .int .i64 (2048 + 4 * n), .int .i64 0, .int .i64 0, .int .i64 0, .bool false, .int .u16 0, .bool false, .int .u16 0, .bool false, .bool true] 26)).alloc (.cells #[.int .u16 (le s n)] 28))) := ⟨(below_alloc (below_alloc HB.out _) _)⟩
            have n13 : Aside0 ((World.heap (((w5.alloc (.cells #[.int .u16 0, .int .u16 0, .int .u16 0, .int .i64 (2048 + 4 * n), .int .i64 0, .int .i64 0, .int .i64 0, .bool false, .int .u16 0, .bool false, .int .u16 0, .bool false, .bool true] 26)).alloc (.cells #[.int .u16 (le s n)] 28))))[w5.heap.size]? = some (.cells #[.int .u16 0, .int .u16 0, .int .u16 0, .int .i64 (2048 + 4 * n), .int .i64 0, .int .i64 0, .int .i64 0, .bool false, .int .u16 0, .bool false, .int .u16 0, .bool false, .bool true] 26 (0, 0))) := ⟨by have h := blk_alloc (blk_new w5 (.cells #[.int .u16 0, .int .u16 0, .int .u16 0, .int .i64 (2048 + 4 * n), .int .i64 0, .int .i64 0, .int .i64 0, .bool false, .int .u16 0, .bool false, .int .u16 0, .bool false, .bool true] 26)) (.cells #[.int .u16 (le s n)] 28); exact h⟩
            have n14 : Aside0 ((World.heap (((w5.alloc (.cells #[.int .u16 0, .int .u16 0, .int .u16 0, .int .i64 (2048 + 4 * n), .int .i64 0, .int .i64 0, .int .i64 0, .bool false, .int .u16 0, .bool false, .int .u16 0, .bool false, .bool true] 26)).alloc (.cells #[.int .u16 (le s n)] 28))))[w5.heap.size + 1]? = some (.cells #[.int .u16 (le s n)] 28 (0, 0))) := ⟨by have h := blk_new (w5.alloc (.cells #[.int .u16 0, .int .u16 0, .int .u16 0, .int .i64 (2048 + 4 * n), .int .i64 0, .int .i64 0, .int .i64 0, .bool false, .int .u16 0, .bool false, .int .u16 0, .bool false, .bool true] 26)) (.cells #[.int .u16 (le s n)] 28); rw [World.size_alloc] at h; exact h⟩
            clear HB K5 K6 K11 KC C1
            generalize ((w5.alloc (.cells #[.int .u16 0, .int .u16 0, .int .u16 0, .int .i64 (2048 + 4 * n), .int .i64 0, .int .i64 0, .int .i64 0, .bool false, .int .u16 0, .bool false, .int .u16 0, .bool false, .bool true] 26)).alloc (.cells #[.int .u16 (le s n)] 28)) = w6 at nB n5 n6 n11 nC n13 n14 nC1 ⊢
            obtain ⟨b13, hb13⟩ : ∃ x, w5.heap.size = x := ⟨_, rfl⟩
            rw [hb13] at n13 n14 ⊢
            clear hb13
            have HB := nB
            have K5 := n5
            have K6 := n6
            have K11 := n11
            have KC := nC
            have K13 := n13
            have K14 := n14
            have C1 := nC1
            clear nB n5 n6 n11 nC n13 n14 nC1
            clear EN P1
            have y0 : w6.cell? ⟨b13, 0, none⟩ = some (.int .u16 0) := (blk_cell K13.out 0).trans rfl
            have y1 : w6.cell? ⟨b13, 1, none⟩ = some (.int .u16 0) := (blk_cell K13.out 1).trans rfl
            have y2 : w6.cell? ⟨b13, 2, none⟩ = some (.int .u16 0) := (blk_cell K13.out 2).trans rfl
            have y3 : w6.cell? ⟨b13, 3, none⟩ = some (.int .i64 (2048 + 4 * n)) := (blk_cell K13.out 3).trans rfl
            have y4 : w6.cell? ⟨b13, 4, none⟩ = some (.int .i64 0) := (blk_cell K13.out 4).trans rfl
            have y5 : w6.cell? ⟨b13, 5, none⟩ = some (.int .i64 0) := (blk_cell K13.out 5).trans rfl
            have y6 : w6.cell? ⟨b13, 6, none⟩ = some (.int .i64 0) := (blk_cell K13.out 6).trans rfl
            have y7 : w6.cell? ⟨b13, 7, none⟩ = some (.bool false) := (blk_cell K13.out 7).trans rfl
            have y8 : w6.cell? ⟨b13, 8, none⟩ = some (.int .u16 0) := (blk_cell K13.out 8).trans rfl
            have y9 : w6.cell? ⟨b13, 9, none⟩ = some (.bool false) := (blk_cell K13.out 9).trans rfl
            have y10 : w6.cell? ⟨b13, 10, none⟩ = some (.int .u16 0) := (blk_cell K13.out 10).trans rfl
            have y11 : w6.cell? ⟨b13, 11, none⟩ = some (.bool false) := (blk_cell K13.out 11).trans rfl
            have y12 : w6.cell? ⟨b13, 12, none⟩ = some (.bool true) := (blk_cell K13.out 12).trans rfl
            refine start_ (n := 9) (S := fun w' => w'.cell? ⟨b13, 0, none⟩ = some (.int .u16 0) ∧ w'.cell? ⟨b13, 1, none⟩ = some (.int .u16 0) ∧ w'.cell? ⟨b13, 2, none⟩ = some (.int .u16 0) ∧ w'.cell? ⟨b13, 3, none⟩ = some (.int .i64 (2048 + 4 * n)) ∧ w'.cell? ⟨b13, 4, none⟩ = some (.int .i64 0) ∧ w'.cell? ⟨b13, 5, none⟩ = some (.int .i64 0) ∧ w'.cell? ⟨b13, 6, none⟩ = some (.int .i64 0) ∧ w'.cell? ⟨b13, 7, none⟩ = some (.bool false) ∧ w'.cell? ⟨b13, 8, none⟩ = some (.int .u16 0) ∧ w'.cell? ⟨b13, 9, none⟩ = some (.bool false) ∧ w'.cell? ⟨b13, 10, none⟩ = some (.int .u16 0) ∧ w'.cell? ⟨b13, 11, none⟩ = some (.bool false) ∧ w'.cell? ⟨b13, 12, none⟩ = some (.bool true)) (ds := []) #[false, false, false, false, false, false, false, false, false] (by kernel_rfl) rfl rfl ⟨y0, y1, y2, y3, y4, y5, y6, y7, y8, y9, y10, y11, y12⟩ (fun hHeld => ?_)
            replace K5 : Aside0 ((World.heap (w6.drew))[b5]? = some (.cells #[.int .u16 s] 28 (0, 0))) := ⟨blk_drew K5.out⟩
            replace K6 : Aside0 ((World.heap (w6.drew))[b5 + 1]? = some (.cells (wantA p) 46 (0, 0))) := ⟨blk_drew K6.out⟩
            replace K11 : Aside0 ((World.heap (w6.drew))[b11]? = some (.cells #[.int .u16 0, .int .u16 0, .int .u16 0, .int .i64 Z, .int .i64 0, .int .i64 0, .int .i64 0, .bool false, .int .u16 0, .bool false, .int .u16 0, .bool false, .bool false] 26 (0, 0))) := ⟨blk_drew K11.out⟩
            replace KC : Aside0 ((World.heap (w6.drew))[gc]? = some (.cells csC 49 (0, 0))) := ⟨blk_drew KC.out⟩
            replace K13 : Aside0 ((World.heap (w6.drew))[b13]? = some (.cells #[.int .u16 0, .int .u16 0, .int .u16 0, .int .i64 (2048 + 4 * n), .int .i64 0, .int .i64 0, .int .i64 0, .bool false, .int .u16 0, .bool false, .int .u16 0, .bool false, .bool true] 26 (0, 0))) := ⟨blk_drew K13.out⟩
            replace K14 : Aside0 ((World.heap (w6.drew))[b13 + 1]? = some (.cells #[.int .u16 (le s n)] 28 (0, 0))) := ⟨blk_drew K14.out⟩
            replace C1 : Aside0 (Kd.C k49 w6.drew (some ⟨gc, 0, none⟩) 2 [⟨13, Z⟩, ⟨15, 5⟩]) := ⟨Kd.C_drew C1.out⟩
            replace HB : Aside0 (Below w.heap.size w w6.drew) := ⟨below_drew1 HB.out⟩
            change w6.drew.cell? _ = _ at y0
            change w6.drew.cell? _ = _ at y1
            change w6.drew.cell? _ = _ at y2
            change w6.drew.cell? _ = _ at y3
            change w6.drew.cell? _ = _ at y4
            change w6.drew.cell? _ = _ at y5
            change w6.drew.cell? _ = _ at y6
            change w6.drew.cell? _ = _ at y7
            change w6.drew.cell? _ = _ at y8
            change w6.drew.cell? _ = _ at y9
            change w6.drew.cell? _ = _ at y10
            change w6.drew.cell? _ = _ at y11
            change w6.drew.cell? _ = _ at y12
            generalize w6.drew = wd at HB y0 y1 y2 y3 y4 y5 y6 y7 y8 y9 y10 y11 y12 C1 K5 K6 K11 KC K13 K14 hHeld ⊢
            refine take_ (i := 2) (N := some 90) (v := ?_) (a' := ?_) #[false, false, true, false, false, false, false, false, false] rfl rfl (by kernel_rfl) (fun _ _ _ h => h) (Or.inl ⟨by rfl, ?_⟩) hHeld ?_ ?_
            rotate_left
            · rintro w' ⟨s0, s1, s2, s3, s4, s5, s6, s7, s8, s9, s10, s11, s12⟩
              go_simp
              with_reducible rfl
            rotate_left
            · simp only [Act.put, List.setIfInBounds_toArray, List.set_cons_zero, List.set_cons_succ, i64_w, i32_w]
              rfl
            refine one_ (i := 0) (N := some 88) #[true, false, true, false, false, false, false, false, false] rfl rfl (by kernel_rfl) (by decide) (fun K hK => ?_)
            refine value_ (w1 := ?_) (v := ?_) (by rfl) rfl ?_ ?_
            rotate_left 2
            · refine lit10_run _ _ ?_ _
              rfl
            have C88 := Aside0.mk (show Kd.C (Kd.int .i64) (wd.alloc (.cells #[.int .i64 1, .int .i64 2, .int .i64 3, .int .i64 4, .int .i64 5, .int .i64 6, .int .i64 7, .int .i64 8, .int .i64 9, .int .i64 10] 3)) (some ⟨wd.heap.size, 0, none⟩) 10 [1, 2, 3, 4, 5, 6, 7, 8, 9, 10] from litI wd [1, 2, 3, 4, 5, 6, 7, 8, 9, 10] wd.heap.size 10 rfl rfl (by decide))
            have hbz := below_alloc (Below.refl wd.heap.size wd) (.cells #[.int .i64 1, .int .i64 2, .int .i64 3, .int .i64 4, .int .i64 5, .int .i64 6, .int .i64 7, .int .i64 8, .int .i64 9, .int .i64 10] 3)
            replace y0 := (hbz.cell (World.block_lt_of_cell? _ _ y0)).trans y0
            replace y1 := (hbz.cell (World.block_lt_of_cell? _ _ y1)).trans y1
            replace y2 := (hbz.cell (World.block_lt_of_cell? _ _ y2)).trans y2
            replace y3 := (hbz.cell (World.block_lt_of_cell? _ _ y3)).trans y3
            replace y4 := (hbz.cell (World.block_lt_of_cell? _ _ y4)).trans y4
            replace y5 := (hbz.cell (World.block_lt_of_cell? _ _ y5)).trans y5
            replace y6 := (hbz.cell (World.block_lt_of_cell? _ _ y6)).trans y6
            replace y7 := (hbz.cell (World.block_lt_of_cell? _ _ y7)).trans y7
            replace y8 := (hbz.cell (World.block_lt_of_cell? _ _ y8)).trans y8
            replace y9 := (hbz.cell (World.block_lt_of_cell? _ _ y9)).trans y9
            replace y10 := (hbz.cell (World.block_lt_of_cell? _ _ y10)).trans y10
            replace y11 := (hbz.cell (World.block_lt_of_cell? _ _ y11)).trans y11
            replace y12 := (hbz.cell (World.block_lt_of_cell? _ _ y12)).trans y12
            replace C1 := Aside0.mk (Kd.C_below C1.out hbz)
            replace K5 := Aside0.mk (blk_below K5.out hbz)
            replace K6 := Aside0.mk (blk_below K6.out hbz)
            replace K11 := Aside0.mk (blk_below K11.out hbz)
            replace KC := Aside0.mk (blk_below KC.out hbz)
            replace K13 := Aside0.mk (blk_below K13.out hbz)
            replace K14 := Aside0.mk (blk_below K14.out hbz)
            have HBn := Aside0.mk (below_step (by repeat (first | (with_reducible first | exact HB.out | apply below_alloc | apply pw_below_drewN | apply below_drew1) | exact HB.out)) hbz)
            clear HB
            have HB := HBn
            clear HBn
            clear hbz
            obtain ⟨b88, hb88⟩ : ∃ x, wd.heap.size = x := ⟨_, rfl⟩
            rw [hb88] at C88 ⊢
            clear hb88
            generalize wd.alloc (.cells #[.int .i64 1, .int .i64 2, .int .i64 3, .int .i64 4, .int .i64 5, .int .i64 6, .int .i64 7, .int .i64 8, .int .i64 9, .int .i64 10] 3) = w7 at C88 HB y0 y1 y2 y3 y4 y5 y6 y7 y8 y9 y10 y11 y12 C1 K5 K6 K11 KC K13 K14 ⊢
            refine hK.out _ _ ⟨y0, y1, y2, y3, y4, y5, y6, y7, y8, y9, y10, y11, y12⟩ (fun hHeld => ?_)
            clear hK K
            refine norm_ (a' := ?_) ?_ ?_
            rotate_left
            · show Act.put _ (some 88) _ = _
              simp only [Act.put, List.setIfInBounds_toArray, List.set_cons_zero, List.set_cons_succ, i64_w, i32_w]
              rfl
            refine one_ (i := 1) (N := some 89) #[true, true, true, false, false, false, false, false, false] rfl rfl (by kernel_rfl) (by decide) (fun K hK => ?_)
            refine goes_ Try.func22 (by kernel_rfl) rfl #[.slice (some ⟨b88, 0, none⟩) 10 10] (by rfl) rfl rfl (by simp only [List.map_toArray, List.map_cons, List.map_nil]; rfl) ?_
            with_reducible refine (PX.out _ _ 10 C88.out (by decide)).mono ?_
            rintro e w8 ⟨rfl, hbz⟩
            refine ⟨_, rfl, ?_⟩
            clear C88
            replace y0 := (hbz.cell (World.block_lt_of_cell? _ _ y0)).trans y0
            replace y1 := (hbz.cell (World.block_lt_of_cell? _ _ y1)).trans y1
            replace y2 := (hbz.cell (World.block_lt_of_cell? _ _ y2)).trans y2
            replace y3 := (hbz.cell (World.block_lt_of_cell? _ _ y3)).trans y3
            replace y4 := (hbz.cell (World.block_lt_of_cell? _ _ y4)).trans y4
            replace y5 := (hbz.cell (World.block_lt_of_cell? _ _ y5)).trans y5
            replace y6 := (hbz.cell (World.block_lt_of_cell? _ _ y6)).trans y6
            replace y7 := (hbz.cell (World.block_lt_of_cell? _ _ y7)).trans y7
            replace y8 := (hbz.cell (World.block_lt_of_cell? _ _ y8)).trans y8
            replace y9 := (hbz.cell (World.block_lt_of_cell? _ _ y9)).trans y9
            replace y10 := (hbz.cell (World.block_lt_of_cell? _ _ y10)).trans y10
            replace y11 := (hbz.cell (World.block_lt_of_cell? _ _ y11)).trans y11
            replace y12 := (hbz.cell (World.block_lt_of_cell? _ _ y12)).trans y12
            replace C1 := Aside0.mk (Kd.C_below C1.out hbz)
            replace K5 := Aside0.mk (blk_below K5.out hbz)
            replace K6 := Aside0.mk (blk_below K6.out hbz)
            replace K11 := Aside0.mk (blk_below K11.out hbz)
            replace KC := Aside0.mk (blk_below KC.out hbz)
            replace K13 := Aside0.mk (blk_below K13.out hbz)
            replace K14 := Aside0.mk (blk_below K14.out hbz)
            have HBn := Aside0.mk (below_step (by repeat (first | (with_reducible first | exact HB.out | apply below_alloc | apply pw_below_drewN | apply below_drew1) | exact HB.out)) hbz)
            clear HB
            have HB := HBn
            clear HBn
            clear hbz
            refine hK.out _ _ ⟨y0, y1, y2, y3, y4, y5, y6, y7, y8, y9, y10, y11, y12⟩ (fun hHeld => ?_)
            clear hK K
            refine norm_ (a' := ?_) ?_ ?_
            rotate_left
            · show Act.put _ (some 89) _ = _
              simp only [Act.put, List.setIfInBounds_toArray, List.set_cons_zero, List.set_cons_succ, i64_w, i32_w]
              rfl
            refine one_ (i := 3) (N := some 91) #[true, true, true, true, false, false, false, false, false] rfl rfl (by kernel_rfl) (by decide) (fun K hK => ?_)
            refine goes_ Try.func18 (by kernel_rfl) rfl #[.agg #[.int .u16 2046], .agg #[.int .u16 0, .int .u16 0, .int .u16 0, .int .i64 (2048 + 4 * n), .int .i64 0, .int .i64 0, .int .i64 0, .bool false, .int .u16 0, .bool false, .int .u16 0, .bool false, .bool true]] (by rfl) rfl rfl (by simp only [List.map_toArray, List.map_cons, List.map_nil]; rfl) ?_
            with_reducible refine (CH.out _).mono ?_
            rintro e w9 ⟨rfl, hbz⟩
            refine ⟨_, rfl, ?_⟩
            replace y0 := (hbz.cell (World.block_lt_of_cell? _ _ y0)).trans y0
            replace y1 := (hbz.cell (World.block_lt_of_cell? _ _ y1)).trans y1
            replace y2 := (hbz.cell (World.block_lt_of_cell? _ _ y2)).trans y2
            replace y3 := (hbz.cell (World.block_lt_of_cell? _ _ y3)).trans y3
            replace y4 := (hbz.cell (World.block_lt_of_cell? _ _ y4)).trans y4
            replace y5 := (hbz.cell (World.block_lt_of_cell? _ _ y5)).trans y5
            replace y6 := (hbz.cell (World.block_lt_of_cell? _ _ y6)).trans y6
            replace y7 := (hbz.cell (World.block_lt_of_cell? _ _ y7)).trans y7
            replace y8 := (hbz.cell (World.block_lt_of_cell? _ _ y8)).trans y8
            replace y9 := (hbz.cell (World.block_lt_of_cell? _ _ y9)).trans y9
            replace y10 := (hbz.cell (World.block_lt_of_cell? _ _ y10)).trans y10
            replace y11 := (hbz.cell (World.block_lt_of_cell? _ _ y11)).trans y11
            replace y12 := (hbz.cell (World.block_lt_of_cell? _ _ y12)).trans y12
            replace C1 := Aside0.mk (Kd.C_below C1.out hbz)
            replace K5 := Aside0.mk (blk_below K5.out hbz)
            replace K6 := Aside0.mk (blk_below K6.out hbz)
            replace K11 := Aside0.mk (blk_below K11.out hbz)
            replace KC := Aside0.mk (blk_below KC.out hbz)
            replace K13 := Aside0.mk (blk_below K13.out hbz)
            replace K14 := Aside0.mk (blk_below K14.out hbz)
            have HBn := Aside0.mk (below_step (by repeat (first | (with_reducible first | exact HB.out | apply below_alloc | apply pw_below_drewN | apply below_drew1) | exact HB.out)) hbz)
            clear HB
            have HB := HBn
            clear HBn
            clear hbz
            refine hK.out _ _ ⟨y0, y1, y2, y3, y4, y5, y6, y7, y8, y9, y10, y11, y12⟩ (fun hHeld => ?_)
            clear hK K
            refine norm_ (a' := ?_) ?_ ?_
            rotate_left
            · show Act.put _ (some 91) _ = _
              simp only [Act.put, List.setIfInBounds_toArray, List.set_cons_zero, List.set_cons_succ, i64_w, i32_w]
              rfl
            refine pure_ (i := 4) (N := some 87) (v := ?_) (a' := ?_) #[true, true, true, true, true, false, false, false, false] rfl rfl (by kernel_rfl) (fun _ _ _ h => h) (Or.inl ⟨by rfl, ?_⟩) ?_ ?_
            rotate_left
            · intro w'
              go_simp
              with_reducible rfl
            rotate_left
            · simp only [Act.put, List.setIfInBounds_toArray, List.set_cons_zero, List.set_cons_succ, i64_w, i32_w]
              rfl
            refine pure_ (i := 5) (N := some 92) (v := ?_) (a' := ?_) #[true, true, true, true, true, true, false, false, false] rfl rfl (by kernel_rfl) (fun _ _ _ h => h) (Or.inl ⟨by rfl, ?_⟩) ?_ ?_
            rotate_left
            · intro w'
              go_simp
              with_reducible rfl
            rotate_left
            · simp only [Act.put, List.setIfInBounds_toArray, List.set_cons_zero, List.set_cons_succ, i64_w, i32_w]
              rfl
            refine pure_ (i := 6) (N := some 93) (v := ?_) (a' := ?_) #[true, true, true, true, true, true, true, false, false] rfl rfl (by kernel_rfl) (fun _ _ _ h => h) (Or.inl ⟨by rfl, ?_⟩) ?_ ?_
            rotate_left
            · intro w'
              go_simp
              with_reducible rfl
            rotate_left
            · simp only [Act.put, List.setIfInBounds_toArray, List.set_cons_zero, List.set_cons_succ, i64_w, i32_w]
              rfl
            refine pure_ (i := 7) (N := some 18) (v := ?_) (a' := ?_) #[true, true, true, true, true, true, true, true, false] rfl rfl (by kernel_rfl) (fun _ _ _ h => h) (Or.inl ⟨by rfl, ?_⟩) ?_ ?_
            rotate_left
            · intro w'
              go_simp
              with_reducible rfl
            rotate_left
            · simp only [Act.put, List.setIfInBounds_toArray, List.set_cons_zero, List.set_cons_succ, i64_w, i32_w]
              rfl
            refine pure_ (i := 8) (N := some 19) (v := ?_) (a' := ?_) #[true, true, true, true, true, true, true, true, true] rfl rfl (by kernel_rfl) (fun _ _ _ h => h) (Or.inl ⟨by rfl, ?_⟩) ?_ ?_
            rotate_left
            · intro w'
              go_simp
              with_reducible rfl
            rotate_left
            · simp only [Act.put, List.setIfInBounds_toArray, List.set_cons_zero, List.set_cons_succ, i64_w, i32_w]
              rfl
            refine done_ (by kernel_rfl) ?_
            
            clear CH PX y0 y1 y2 y3 y4 y5 y6 y7 y8 y9 y10 y11 y12
            have u6 := (un nr.out).2.1
            have u7 := (un nr.out).2.2
            have e1 : (n != n) = false := bne_self_eq_false _
            have e2 : ((2048 + 4 * n) != (2048 + 4 * n)) = false := bne_self_eq_false _
            have y0 : w9.cell? ⟨b13, 0, none⟩ = some (.int .u16 0) := (blk_cell K13.out 0).trans rfl
            have y1 : w9.cell? ⟨b13, 1, none⟩ = some (.int .u16 0) := (blk_cell K13.out 1).trans rfl
            have y2 : w9.cell? ⟨b13, 2, none⟩ = some (.int .u16 0) := (blk_cell K13.out 2).trans rfl
            have y3 : w9.cell? ⟨b13, 3, none⟩ = some (.int .i64 (2048 + 4 * n)) := (blk_cell K13.out 3).trans rfl
            have y4 : w9.cell? ⟨b13, 4, none⟩ = some (.int .i64 0) := (blk_cell K13.out 4).trans rfl
            have y5 : w9.cell? ⟨b13, 5, none⟩ = some (.int .i64 0) := (blk_cell K13.out 5).trans rfl
            have y6 : w9.cell? ⟨b13, 6, none⟩ = some (.int .i64 0) := (blk_cell K13.out 6).trans rfl
            have y7 : w9.cell? ⟨b13, 7, none⟩ = some (.bool false) := (blk_cell K13.out 7).trans rfl
            have y8 : w9.cell? ⟨b13, 8, none⟩ = some (.int .u16 0) := (blk_cell K13.out 8).trans rfl
            have y9 : w9.cell? ⟨b13, 9, none⟩ = some (.bool false) := (blk_cell K13.out 9).trans rfl
            have y10 : w9.cell? ⟨b13, 10, none⟩ = some (.int .u16 0) := (blk_cell K13.out 10).trans rfl
            have y11 : w9.cell? ⟨b13, 11, none⟩ = some (.bool false) := (blk_cell K13.out 11).trans rfl
            have y12 : w9.cell? ⟨b13, 12, none⟩ = some (.bool true) := (blk_cell K13.out 12).trans rfl
            have x0 : w9.cell? ⟨b13 + 1, 0, none⟩ = some (.int .u16 (le s n)) := (blk_cell K14.out 0).trans rfl
            go_upto_region 23 with (first | (go_at_call 16; (with_reducible refine at_args #[.agg #[.int .u16 (le s n)], .int .i64 n] ?_); (with_reducible refine (WL.out _).mono ?_); rintro e w10 ⟨rfl, hbz⟩; have n5 := Aside0.mk (blk_below K5.out hbz); have n6 := Aside0.mk (blk_below K6.out hbz); have n11 := Aside0.mk (blk_below K11.out hbz); have nC := Aside0.mk (blk_below KC.out hbz); have n13 := Aside0.mk (blk_below K13.out hbz); have n14 := Aside0.mk (blk_below K14.out hbz); have nC1 := Aside0.mk (Kd.C_below C1.out hbz); clear K5 K6 K11 KC K13 K14 C1 y0 y1 y2 y3 y4 y5 y6 y7 y8 y9 y10 y11 y12 x0; have K5 := n5; have K6 := n6; have K11 := n11; have KC := nC; have K13 := n13; have K14 := n14; have C1 := nC1; clear n5 n6 n11 nC n13 n14 nC1; have HBn := Aside0.mk (below_step (by repeat (first | (with_reducible first | exact HB.out | apply below_alloc | apply pw_below_drewN | apply below_drew1) | exact HB.out)) hbz); clear HB; have HB := HBn; clear HBn; clear hbz) | (go_at_call 23; (with_reducible refine at_args #[.slice _ 2 _, .slice _ 2 2] ?_); (with_reducible refine (CE.out _ _ _ _ 2 ?hc1 ?hc2 ?hc3 (by decide)).mono ?_); (case hc1 => exact Kd.C_alloc C1.out _); (case hc2 => exact hkc.out); (case hc3 => exact litC _ [⟨13, Z⟩, ⟨15, 5⟩] _ _ (by first | rfl | (simp; done)) rfl (by show 2 ≤ 9223372036854775807; decide)); rintro e w11 ⟨rfl, ⟨nd, hd⟩⟩; have hbz := drawn_below hd; clear hd; replace K5 := Aside0.mk (blk_alloc K5.out (.cells #[.int .i64 13, .int .u16 Z, .int .i64 15, .int .u16 5] 49)); replace K6 := Aside0.mk (blk_alloc K6.out (.cells #[.int .i64 13, .int .u16 Z, .int .i64 15, .int .u16 5] 49)); replace K11 := Aside0.mk (blk_alloc K11.out (.cells #[.int .i64 13, .int .u16 Z, .int .i64 15, .int .u16 5] 49)); replace KC := Aside0.mk (blk_alloc KC.out (.cells #[.int .i64 13, .int .u16 Z, .int .i64 15, .int .u16 5] 49)); replace K13 := Aside0.mk (blk_alloc K13.out (.cells #[.int .i64 13, .int .u16 Z, .int .i64 15, .int .u16 5] 49)); replace K14 := Aside0.mk (blk_alloc K14.out (.cells #[.int .i64 13, .int .u16 Z, .int .i64 15, .int .u16 5] 49)); replace C1 := Aside0.mk (Kd.C_alloc C1.out (.cells #[.int .i64 13, .int .u16 Z, .int .i64 15, .int .u16 5] 49)); have n5 := Aside0.mk (blk_below K5.out hbz); have n6 := Aside0.mk (blk_below K6.out hbz); have n11 := Aside0.mk (blk_below K11.out hbz); have nC := Aside0.mk (blk_below KC.out hbz); have n13 := Aside0.mk (blk_below K13.out hbz); have n14 := Aside0.mk (blk_below K14.out hbz); have nC1 := Aside0.mk (Kd.C_below C1.out hbz); clear K5 K6 K11 KC K13 K14 C1; have K5 := n5; have K6 := n6; have K11 := n11; have KC := nC; have K13 := n13; have K14 := n14; have C1 := nC1; clear n5 n6 n11 nC n13 n14 nC1; have HBn := Aside0.mk (below_step (by repeat (first | (with_reducible first | exact HB.out | apply below_alloc | apply pw_below_drewN | apply below_drew1) | exact HB.out)) hbz); clear HB; have HB := HBn; clear HBn; clear hbz))
            clear WL CE
            go_upto_region 24 with (first | (at_make; refine Kd.R_make (Kd.int .u16) (w0 := w) w.heap.size 24 rfl (N := 127) rfl 29 (.const (.int .i64 16)) (.const (.int .i64 16)) rfl 16 rfl rfl Try.underlying29 (.int .u16 0) 2 infoWord rfl (by decide) (by decide) 0 (ok := fun _ => True) (okp := fun _ => True) ?hzero (fun _ _ => trivial) trivial (by decide) ?hl ?hHB ?hbase ?_; (case hzero => rfl); (case hl => decide); (case hHB => exact (by repeat (first | (with_reducible first | exact HB.out | apply below_alloc | apply pw_below_drewN | apply below_drew1) | exact HB.out))); (case hbase => exact below_size (by repeat (first | (with_reducible first | exact HB.out | apply below_alloc | apply pw_below_drewN | apply below_drew1) | exact HB.out))); intro v6 w12 hR hb6 hg_ hat; have hbW := pw_below_grown (Below.refl _ _) none (Nat.le_refl _) hg_ (fun k hk => by cases hk); obtain ⟨ge, ke, rfl, Oe, hfe⟩ := OW.of hR rfl (by decide) hat; have OE := Aside0.mk Oe; clear Oe; have n5 := Aside0.mk (blk_below K5.out hbW); have n6 := Aside0.mk (blk_below K6.out hbW); have n11 := Aside0.mk (blk_below K11.out hbW); have nC := Aside0.mk (blk_below KC.out hbW); have n13 := Aside0.mk (blk_below K13.out hbW); have n14 := Aside0.mk (blk_below K14.out hbW); have nC1 := Aside0.mk (Kd.C_below C1.out hbW); clear K5 K6 K11 KC K13 K14 C1; have K5 := n5; have K6 := n6; have K11 := n11; have KC := nC; have K13 := n13; have K14 := n14; have C1 := nC1; clear n5 n6 n11 nC n13 n14 nC1; clear HB hR hg_ hat hbW; have HB := Aside0.mk hb6; clear hb6))
            obtain ⟨ceE, heE⟩ := OE.out.2.2.2.2.1
            have ne5 := Aside0.mk (blk_ne K5.out heE (by decide))
            have ne6 := Aside0.mk (blk_ne K6.out heE (by decide))
            have ne11 := Aside0.mk (blk_ne K11.out heE (by decide))
            have neC := Aside0.mk (blk_ne KC.out heE (by decide))
            have ne13 := Aside0.mk (blk_ne K13.out heE (by decide))
            have ne14 := Aside0.mk (blk_ne K14.out heE (by decide))
            have hgE := Aside0.mk OE.out.2.2.1
            have hkE := Aside0.mk OE.out.2.2.2.2.2
            clear heE
            have q1 : w12.cell? ⟨gc, 1, none⟩ = some (.int .u16 Z) := by obtain ⟨ad, eA, h0, h1⟩ := at_T49 C1.out 0 (by decide) (by decide); cases eA; exact h1
            have q3 : w12.cell? ⟨gc, 3, none⟩ = some (.int .u16 5) := by obtain ⟨ad, eA, h0, h1⟩ := at_T49 C1.out 1 (by decide) (by decide); cases eA; exact h1
            clear C1
            refine start_ (n := 14) (S := fun w' => w'.cell? ⟨gc, 1, none⟩ = some (.int .u16 Z) ∧ w'.cell? ⟨gc, 3, none⟩ = some (.int .u16 5)) (ds := []) #[false, false, false, false, false, false, false, false, false, false, false, false, false, false] (by kernel_rfl) rfl rfl ⟨q1, q3⟩ (fun hHeld => ?_)
            replace OE : Aside0 (OW .u16 24 w12.drew w.heap.size ge 16 ke (List.replicate (Int.toNat 16) 0)) := ⟨OE.out.drew⟩
            replace HB : Aside0 (Below w.heap.size w w12.drew) := ⟨below_drew1 HB.out⟩
            replace K5 : Aside0 ((World.heap (w12.drew))[b5]? = some (.cells #[.int .u16 s] 28 (0, 0))) := ⟨blk_drew K5.out⟩
            replace K6 : Aside0 ((World.heap (w12.drew))[b5 + 1]? = some (.cells (wantA p) 46 (0, 0))) := ⟨blk_drew K6.out⟩
            replace K11 : Aside0 ((World.heap (w12.drew))[b11]? = some (.cells #[.int .u16 0, .int .u16 0, .int .u16 0, .int .i64 Z, .int .i64 0, .int .i64 0, .int .i64 0, .bool false, .int .u16 0, .bool false, .int .u16 0, .bool false, .bool false] 26 (0, 0))) := ⟨blk_drew K11.out⟩
            replace KC : Aside0 ((World.heap (w12.drew))[gc]? = some (.cells csC 49 (0, 0))) := ⟨blk_drew KC.out⟩
            replace K13 : Aside0 ((World.heap (w12.drew))[b13]? = some (.cells #[.int .u16 0, .int .u16 0, .int .u16 0, .int .i64 (2048 + 4 * n), .int .i64 0, .int .i64 0, .int .i64 0, .bool false, .int .u16 0, .bool false, .int .u16 0, .bool false, .bool true] 26 (0, 0))) := ⟨blk_drew K13.out⟩
            replace K14 : Aside0 ((World.heap (w12.drew))[b13 + 1]? = some (.cells #[.int .u16 (le s n)] 28 (0, 0))) := ⟨blk_drew K14.out⟩
            change w12.drew.cell? _ = _ at q1
            change w12.drew.cell? _ = _ at q3
            generalize w12.drew = wd at OE HB K5 K6 K11 KC K13 K14 q1 q3 hHeld ⊢
            have se : wd.cell? ⟨ge, 13, none⟩ = some (.int .u16 0) := (OE.out.cell 13 (by decide) (by decide)).1
            have sf : wd.frozen? ⟨ge, 13, none⟩ = false := (OE.out.cell 13 (by decide) (by decide)).2
            have te : wd.cell? ⟨ge, 15, none⟩ = some (.int .u16 0) := (OE.out.cell 15 (by decide) (by decide)).1
            have tf : wd.frozen? ⟨ge, 15, none⟩ = false := (OE.out.cell 15 (by decide) (by decide)).2
            refine pure_ (i := 0) (N := some 128) (v := ?_) (a' := ?_) #[true, false, false, false, false, false, false, false, false, false, false, false, false, false] rfl rfl (by kernel_rfl) (fun _ _ _ h => h) (Or.inl ⟨by rfl, ?_⟩) ?_ ?_
            rotate_left
            · intro w'
              go_simp
              with_reducible rfl
            rotate_left
            · simp only [Act.put, List.setIfInBounds_toArray, List.set_cons_zero, List.set_cons_succ, i64_w, i32_w]
              rfl
            refine pure_ (i := 1) (N := some 129) (v := ?_) (a' := ?_) #[true, true, false, false, false, false, false, false, false, false, false, false, false, false] rfl rfl (by kernel_rfl) (fun _ _ _ h => h) (Or.inl ⟨by rfl, ?_⟩) ?_ ?_
            rotate_left
            · intro w'
              go_simp
              with_reducible rfl
            rotate_left
            · simp only [Act.put, List.setIfInBounds_toArray, List.set_cons_zero, List.set_cons_succ, i64_w, i32_w]
              rfl
            refine pure_ (i := 2) (N := some 130) (v := ?_) (a' := ?_) #[true, true, true, false, false, false, false, false, false, false, false, false, false, false] rfl rfl (by kernel_rfl) (fun _ _ _ h => h) (Or.inl ⟨by rfl, ?_⟩) ?_ ?_
            rotate_left
            · intro w'
              go_simp
              with_reducible rfl
            rotate_left
            · simp only [Act.put, List.setIfInBounds_toArray, List.set_cons_zero, List.set_cons_succ, i64_w, i32_w]
              rfl
            refine pure_ (i := 3) (N := some 131) (v := ?_) (a' := ?_) #[true, true, true, true, false, false, false, false, false, false, false, false, false, false] rfl rfl (by kernel_rfl) (fun _ _ _ h => h) (Or.inl ⟨by rfl, ?_⟩) ?_ ?_
            rotate_left
            · intro w'
              go_simp
              with_reducible rfl
            rotate_left
            · simp only [Act.put, List.setIfInBounds_toArray, List.set_cons_zero, List.set_cons_succ, i64_w, i32_w]
              rfl
            refine pure_ (i := 4) (N := some 132) (v := ?_) (a' := ?_) #[true, true, true, true, true, false, false, false, false, false, false, false, false, false] rfl rfl (by kernel_rfl) (fun _ _ _ h => h) (Or.inl ⟨by rfl, ?_⟩) ?_ ?_
            rotate_left
            · intro w'
              go_simp
              with_reducible rfl
            rotate_left
            · simp only [Act.put, List.setIfInBounds_toArray, List.set_cons_zero, List.set_cons_succ, i64_w, i32_w]
              rfl
            refine pure_ (i := 6) (N := some 134) (v := ?_) (a' := ?_) #[true, true, true, true, true, false, true, false, false, false, false, false, false, false] rfl rfl (by kernel_rfl) (fun _ _ _ h => h) (Or.inl ⟨by rfl, ?_⟩) ?_ ?_
            rotate_left
            · intro w'
              go_simp
              with_reducible rfl
            rotate_left
            · simp only [Act.put, List.setIfInBounds_toArray, List.set_cons_zero, List.set_cons_succ, i64_w, i32_w]
              rfl
            refine pure_ (i := 7) (N := some 135) (v := ?_) (a' := ?_) #[true, true, true, true, true, false, true, true, false, false, false, false, false, false] rfl rfl (by kernel_rfl) (fun _ _ _ h => h) (Or.inl ⟨by rfl, ?_⟩) ?_ ?_
            rotate_left
            · intro w'
              go_simp
              with_reducible rfl
            rotate_left
            · simp only [Act.put, List.setIfInBounds_toArray, List.set_cons_zero, List.set_cons_succ, i64_w, i32_w]
              rfl
            refine pure_ (i := 8) (N := some 136) (v := ?_) (a' := ?_) #[true, true, true, true, true, false, true, true, true, false, false, false, false, false] rfl rfl (by kernel_rfl) (fun _ _ _ h => h) (Or.inl ⟨by rfl, ?_⟩) ?_ ?_
            rotate_left
            · intro w'
              go_simp
              with_reducible rfl
            rotate_left
            · simp only [Act.put, List.setIfInBounds_toArray, List.set_cons_zero, List.set_cons_succ, i64_w, i32_w]
              rfl
            refine take_ (i := 5) (N := some 133) (v := ?_) (a' := ?_) #[true, true, true, true, true, true, true, true, true, false, false, false, false, false] rfl rfl (by kernel_rfl) (fun _ _ _ h => h) (Or.inl ⟨by rfl, ?_⟩) hHeld ?_ ?_
            rotate_left
            · rintro w' ⟨s0, s1⟩
              go_simp
              with_reducible rfl
            rotate_left
            · simp only [Act.put, List.setIfInBounds_toArray, List.set_cons_zero, List.set_cons_succ, i64_w, i32_w]
              rfl
            refine take_ (i := 9) (N := some 137) (v := ?_) (a' := ?_) #[true, true, true, true, true, true, true, true, true, true, false, false, false, false] rfl rfl (by kernel_rfl) (fun _ _ _ h => h) (Or.inl ⟨by rfl, ?_⟩) hHeld ?_ ?_
            rotate_left
            · rintro w' ⟨s0, s1⟩
              go_simp
              with_reducible rfl
            rotate_left
            · simp only [Act.put, List.setIfInBounds_toArray, List.set_cons_zero, List.set_cons_succ, i64_w, i32_w]
              rfl
            refine pure_ (i := 10) (N := some 138) (v := ?_) (a' := ?_) #[true, true, true, true, true, true, true, true, true, true, true, false, false, false] rfl rfl (by kernel_rfl) (fun _ _ _ h => h) (Or.inl ⟨by rfl, ?_⟩) ?_ ?_
            rotate_left
            · intro w'
              go_simp
              with_reducible rfl
            rotate_left
            · simp only [Act.put, List.setIfInBounds_toArray, List.set_cons_zero, List.set_cons_succ, i64_w, i32_w]
              rfl
            refine one_ (i := 11) (N := none) #[true, true, true, true, true, true, true, true, true, true, true, true, false, false] rfl rfl (by kernel_rfl) (by decide) (fun K hK => ?_)
            refine skip_ (w1 := ?_) (by rfl) rfl ?_ ?_
            rotate_left
            · go_simp
              rfl
            replace q1 := (World.cell?_setCell_far wd ⟨ge, 13, none⟩ ⟨gc, 1, none⟩ (.int .u16 Z) (fun h => neC.out h.symm)).trans q1
            replace q3 := (World.cell?_setCell_far wd ⟨ge, 13, none⟩ ⟨gc, 3, none⟩ (.int .u16 Z) (fun h => neC.out h.symm)).trans q3
            refine hK.out _ _ ⟨q1, q3⟩ (fun hHeld => ?_)
            clear hK K
            refine pure_ (i := 12) (N := some 139) (v := ?_) (a' := ?_) #[true, true, true, true, true, true, true, true, true, true, true, true, true, false] rfl rfl (by kernel_rfl) (fun _ _ _ h => h) (Or.inl ⟨by rfl, ?_⟩) ?_ ?_
            rotate_left
            · intro w'
              go_simp
              with_reducible rfl
            rotate_left
            · simp only [Act.put, List.setIfInBounds_toArray, List.set_cons_zero, List.set_cons_succ, i64_w, i32_w]
              rfl
            refine one_ (i := 13) (N := none) #[true, true, true, true, true, true, true, true, true, true, true, true, true, true] rfl rfl (by kernel_rfl) (by decide) (fun K hK => ?_)
            refine skip_ (w1 := ?_) (by rfl) rfl ?_ ?_
            rotate_left
            · go_simp
              rfl
            replace q1 := (World.cell?_setCell_far (wd.setCell ⟨ge, 13, none⟩ (.int .u16 Z)) ⟨ge, 15, none⟩ ⟨gc, 1, none⟩ (.int .u16 5) (fun h => neC.out h.symm)).trans q1
            replace q3 := (World.cell?_setCell_far (wd.setCell ⟨ge, 13, none⟩ (.int .u16 Z)) ⟨ge, 15, none⟩ ⟨gc, 3, none⟩ (.int .u16 5) (fun h => neC.out h.symm)).trans q3
            refine hK.out _ _ ⟨q1, q3⟩ (fun hHeld => ?_)
            clear hK K
            refine done_ (by kernel_rfl) ?_
            
            have OE2 : Aside0 (OW .u16 24 ((wd.setCell ⟨ge, 13, none⟩ (.int .u16 Z)).setCell ⟨ge, 15, none⟩ (.int .u16 5)) w.heap.size ge 16 ke [0, 0, 0, 0, 0, 0, 0, 0, 0, 0, 0, 0, 0, Z, 0, 5]) := ⟨(OE.out.put 13 Z).put 15 5⟩
            have HB2 : Aside0 (Below w.heap.size w ((wd.setCell ⟨ge, 13, none⟩ (.int .u16 Z)).setCell ⟨ge, 15, none⟩ (.int .u16 5))) := ⟨below_set (below_set HB.out hgE.out) hgE.out⟩
            have n5 : Aside0 ((World.heap (((wd.setCell ⟨ge, 13, none⟩ (.int .u16 Z)).setCell ⟨ge, 15, none⟩ (.int .u16 5))))[b5]? = some (.cells #[.int .u16 s] 28 (0, 0))) := ⟨blk_far (blk_far K5.out ne5.out _) ne5.out _⟩
            have n6 : Aside0 ((World.heap (((wd.setCell ⟨ge, 13, none⟩ (.int .u16 Z)).setCell ⟨ge, 15, none⟩ (.int .u16 5))))[b5 + 1]? = some (.cells (wantA p) 46 (0, 0))) := ⟨blk_far (blk_far K6.out ne6.out _) ne6.out _⟩
            have n11 : Aside0 ((World.heap (((wd.setCell ⟨ge, 13, none⟩ (.int .u16 Z)).setCell ⟨ge, 15, none⟩ (.int .u16 5))))[b11]? = some (.cells #[.int .u16 0, .int .u16 0, .int .u16 0, .int .i64 Z, .int .i64 0, .int .i64 0, .int .i64 0, .bool false, .int .u16 0, .bool false, .int .u16 0, .bool false, .bool false] 26 (0, 0))) := ⟨blk_far (blk_far K11.out ne11.out _) ne11.out _⟩
            have nC : Aside0 ((World.heap (((wd.setCell ⟨ge, 13, none⟩ (.int .u16 Z)).setCell ⟨ge, 15, none⟩ (.int .u16 5))))[gc]? = some (.cells csC 49 (0, 0))) := ⟨blk_far (blk_far KC.out neC.out _) neC.out _⟩
            have n13 : Aside0 ((World.heap (((wd.setCell ⟨ge, 13, none⟩ (.int .u16 Z)).setCell ⟨ge, 15, none⟩ (.int .u16 5))))[b13]? = some (.cells #[.int .u16 0, .int .u16 0, .int .u16 0, .int .i64 (2048 + 4 * n), .int .i64 0, .int .i64 0, .int .i64 0, .bool false, .int .u16 0, .bool false, .int .u16 0, .bool false, .bool true] 26 (0, 0))) := ⟨blk_far (blk_far K13.out ne13.out _) ne13.out _⟩
            have n14 : Aside0 ((World.heap (((wd.setCell ⟨ge, 13, none⟩ (.int .u16 Z)).setCell ⟨ge, 15, none⟩ (.int .u16 5))))[b13 + 1]? = some (.cells #[.int .u16 (le s n)] 28 (0, 0))) := ⟨blk_far (blk_far K14.out ne14.out _) ne14.out _⟩
            clear OE HB se sf te tf q1 q3 K5 K6 K11 KC K13 K14
            generalize ((wd.setCell ⟨ge, 13, none⟩ (.int .u16 Z)).setCell ⟨ge, 15, none⟩ (.int .u16 5)) = w14 at OE2 HB2 n5 n6 n11 nC n13 n14 ⊢
            have OE := OE2
            have HB := HB2
            have K5 := n5
            have K6 := n6
            have K11 := n11
            have KC := nC
            have K13 := n13
            have K14 := n14
            clear OE2 HB2 n5 n6 n11 nC n13 n14
            have LV := Lib.hid fun (w : World) h => leaveZ Zr.out n (some ⟨ge, 0, none⟩) ke w h hkE.out
            have y0 : w14.cell? ⟨b13, 0, none⟩ = some (.int .u16 0) := (blk_cell K13.out 0).trans rfl
            have y1 : w14.cell? ⟨b13, 1, none⟩ = some (.int .u16 0) := (blk_cell K13.out 1).trans rfl
            have y2 : w14.cell? ⟨b13, 2, none⟩ = some (.int .u16 0) := (blk_cell K13.out 2).trans rfl
            have y3 : w14.cell? ⟨b13, 3, none⟩ = some (.int .i64 (2048 + 4 * n)) := (blk_cell K13.out 3).trans rfl
            have y4 : w14.cell? ⟨b13, 4, none⟩ = some (.int .i64 0) := (blk_cell K13.out 4).trans rfl
            have y5 : w14.cell? ⟨b13, 5, none⟩ = some (.int .i64 0) := (blk_cell K13.out 5).trans rfl
            have y6 : w14.cell? ⟨b13, 6, none⟩ = some (.int .i64 0) := (blk_cell K13.out 6).trans rfl
            have y7 : w14.cell? ⟨b13, 7, none⟩ = some (.bool false) := (blk_cell K13.out 7).trans rfl
            have y8 : w14.cell? ⟨b13, 8, none⟩ = some (.int .u16 0) := (blk_cell K13.out 8).trans rfl
            have y9 : w14.cell? ⟨b13, 9, none⟩ = some (.bool false) := (blk_cell K13.out 9).trans rfl
            have y10 : w14.cell? ⟨b13, 10, none⟩ = some (.int .u16 0) := (blk_cell K13.out 10).trans rfl
            have y11 : w14.cell? ⟨b13, 11, none⟩ = some (.bool false) := (blk_cell K13.out 11).trans rfl
            have y12 : w14.cell? ⟨b13, 12, none⟩ = some (.bool true) := (blk_cell K13.out 12).trans rfl
            go_upto_region 26 with (first | (go_at_call 11; (with_reducible refine at_args #[.agg #[.int .u16 0, .int .u16 0, .int .u16 0, .int .i64 (2048 + 4 * n), .int .i64 0, .int .i64 0, .int .i64 0, .bool false, .int .u16 0, .bool false, .int .u16 0, .bool false, .bool true], .slice (some ⟨ge, 0, none⟩) 16 ke] ?_); (with_reducible refine (LV.out _ OE.out.C).mono ?_); rintro e w15 ⟨rfl, hbz⟩; clear OE LV; have n5 := Aside0.mk (blk_below K5.out hbz); have n6 := Aside0.mk (blk_below K6.out hbz); have n11 := Aside0.mk (blk_below K11.out hbz); have nC := Aside0.mk (blk_below KC.out hbz); have n13 := Aside0.mk (blk_below K13.out hbz); have n14 := Aside0.mk (blk_below K14.out hbz); clear K5 K6 K11 KC K13 K14 y0 y1 y2 y3 y4 y5 y6 y7 y8 y9 y10 y11 y12; have K5 := n5; have K6 := n6; have K11 := n11; have KC := nC; have K13 := n13; have K14 := n14; clear n5 n6 n11 nC n13 n14; have HBn := Aside0.mk (below_step (by repeat (first | (with_reducible first | exact HB.out | apply below_alloc | apply pw_below_drewN | apply below_drew1) | exact HB.out)) hbz); clear HB; have HB := HBn; clear HBn; clear hbz))
            have n5 : Aside0 ((World.heap ((w15.alloc (.cells #[.int .u16 0, .int .u16 0, .int .u16 0, .int .i64 Z, .int .i64 0, .int .i64 0, .int .i64 0, .bool false, .int .u16 0, .bool true, .int .u16 5, .bool false, .bool false] 26))))[b5]? = some (.cells #[.int .u16 s] 28 (0, 0))) := ⟨(blk_alloc K5.out _)⟩
            have n6 : Aside0 ((World.heap ((w15.alloc (.cells #[.int .u16 0, .int .u16 0, .int .u16 0, .int .i64 Z, .int .i64 0, .int .i64 0, .int .i64 0, .bool false, .int .u16 0, .bool true, .int .u16 5, .bool false, .bool false] 26))))[b5 + 1]? = some (.cells (wantA p) 46 (0, 0))) := ⟨(blk_alloc K6.out _)⟩
            have n11 : Aside0 ((World.heap ((w15.alloc (.cells #[.int .u16 0, .int .u16 0, .int .u16 0, .int .i64 Z, .int .i64 0, .int .i64 0, .int .i64 0, .bool false, .int .u16 0, .bool true, .int .u16 5, .bool false, .bool false] 26))))[b11]? = some (.cells #[.int .u16 0, .int .u16 0, .int .u16 0, .int .i64 Z, .int .i64 0, .int .i64 0, .int .i64 0, .bool false, .int .u16 0, .bool false, .int .u16 0, .bool false, .bool false] 26 (0, 0))) := ⟨(blk_alloc K11.out _)⟩
            have nC : Aside0 ((World.heap ((w15.alloc (.cells #[.int .u16 0, .int .u16 0, .int .u16 0, .int .i64 Z, .int .i64 0, .int .i64 0, .int .i64 0, .bool false, .int .u16 0, .bool true, .int .u16 5, .bool false, .bool false] 26))))[gc]? = some (.cells csC 49 (0, 0))) := ⟨(blk_alloc KC.out _)⟩
            have n13 : Aside0 ((World.heap ((w15.alloc (.cells #[.int .u16 0, .int .u16 0, .int .u16 0, .int .i64 Z, .int .i64 0, .int .i64 0, .int .i64 0, .bool false, .int .u16 0, .bool true, .int .u16 5, .bool false, .bool false] 26))))[b13]? = some (.cells #[.int .u16 0, .int .u16 0, .int .u16 0, .int .i64 (2048 + 4 * n), .int .i64 0, .int .i64 0, .int .i64 0, .bool false, .int .u16 0, .bool false, .int .u16 0, .bool false, .bool true] 26 (0, 0))) := ⟨(blk_alloc K13.out _)⟩
            have n14 : Aside0 ((World.heap ((w15.alloc (.cells #[.int .u16 0, .int .u16 0, .int .u16 0, .int .i64 Z, .int .i64 0, .int .i64 0, .int .i64 0, .bool false, .int .u16 0, .bool true, .int .u16 5, .bool false, .bool false] 26))))[b13 + 1]? = some (.cells #[.int .u16 (le s n)] 28 (0, 0))) := ⟨(blk_alloc K14.out _)⟩
            have nB : Aside0 (Below w.heap.size w (w15.alloc (.cells #[.int .u16 0, .int .u16 0, .int .u16 0, .int .i64 Z, .int .i64 0, .int .i64 0, .int .i64 0, .bool false, .int .u16 0, .bool true, .int .u16 5, .bool false, .bool false] 26))) := ⟨(below_alloc HB.out _)⟩
            have n21 : Aside0 ((World.heap ((w15.alloc (.cells #[.int .u16 0, .int .u16 0, .int .u16 0, .int .i64 Z, .int .i64 0, .int .i64 0, .int .i64 0, .bool false, .int .u16 0, .bool true, .int .u16 5, .bool false, .bool false] 26))))[w15.heap.size]? = some (.cells #[.int .u16 0, .int .u16 0, .int .u16 0, .int .i64 Z, .int .i64 0, .int .i64 0, .int .i64 0, .bool false, .int .u16 0, .bool true, .int .u16 5, .bool false, .bool false] 26 (0, 0))) := ⟨by have h := blk_new w15 (.cells #[.int .u16 0, .int .u16 0, .int .u16 0, .int .i64 Z, .int .i64 0, .int .i64 0, .int .i64 0, .bool false, .int .u16 0, .bool true, .int .u16 5, .bool false, .bool false] 26); exact h⟩
            clear HB K5 K6 K11 KC K13 K14
            generalize (w15.alloc (.cells #[.int .u16 0, .int .u16 0, .int .u16 0, .int .i64 Z, .int .i64 0, .int .i64 0, .int .i64 0, .bool false, .int .u16 0, .bool true, .int .u16 5, .bool false, .bool false] 26)) = w16 at nB n5 n6 n11 nC n13 n14 n21 ⊢
            obtain ⟨b21, hb21⟩ : ∃ x, w15.heap.size = x := ⟨_, rfl⟩
            rw [hb21] at n21 ⊢
            clear hb21
            have HB := nB
            have K5 := n5
            have K6 := n6
            have K11 := n11
            have KC := nC
            have K13 := n13
            have K14 := n14
            have K21 := n21
            clear nB n5 n6 n11 nC n13 n14 n21
            have e3 : (Z != Z) = false := bne_self_eq_false _
            have y0 : w16.cell? ⟨b21, 0, none⟩ = some (.int .u16 0) := (blk_cell K21.out 0).trans rfl
            have y1 : w16.cell? ⟨b21, 1, none⟩ = some (.int .u16 0) := (blk_cell K21.out 1).trans rfl
            have y2 : w16.cell? ⟨b21, 2, none⟩ = some (.int .u16 0) := (blk_cell K21.out 2).trans rfl
            have y3 : w16.cell? ⟨b21, 3, none⟩ = some (.int .i64 Z) := (blk_cell K21.out 3).trans rfl
            have y4 : w16.cell? ⟨b21, 4, none⟩ = some (.int .i64 0) := (blk_cell K21.out 4).trans rfl
            have y5 : w16.cell? ⟨b21, 5, none⟩ = some (.int .i64 0) := (blk_cell K21.out 5).trans rfl
            have y6 : w16.cell? ⟨b21, 6, none⟩ = some (.int .i64 0) := (blk_cell K21.out 6).trans rfl
            have y7 : w16.cell? ⟨b21, 7, none⟩ = some (.bool false) := (blk_cell K21.out 7).trans rfl
            have y8 : w16.cell? ⟨b21, 8, none⟩ = some (.int .u16 0) := (blk_cell K21.out 8).trans rfl
            have y9 : w16.cell? ⟨b21, 9, none⟩ = some (.bool true) := (blk_cell K21.out 9).trans rfl
            have y10 : w16.cell? ⟨b21, 10, none⟩ = some (.int .u16 5) := (blk_cell K21.out 10).trans rfl
            have y11 : w16.cell? ⟨b21, 11, none⟩ = some (.bool false) := (blk_cell K21.out 11).trans rfl
            have y12 : w16.cell? ⟨b21, 12, none⟩ = some (.bool false) := (blk_cell K21.out 12).trans rfl
            have v0 : w16.cell? ⟨b11, 0, none⟩ = some (.int .u16 0) := (blk_cell K11.out 0).trans rfl
            have v1 : w16.cell? ⟨b11, 1, none⟩ = some (.int .u16 0) := (blk_cell K11.out 1).trans rfl
            have v2 : w16.cell? ⟨b11, 2, none⟩ = some (.int .u16 0) := (blk_cell K11.out 2).trans rfl
            have v3 : w16.cell? ⟨b11, 3, none⟩ = some (.int .i64 Z) := (blk_cell K11.out 3).trans rfl
            have v4 : w16.cell? ⟨b11, 4, none⟩ = some (.int .i64 0) := (blk_cell K11.out 4).trans rfl
            have v5 : w16.cell? ⟨b11, 5, none⟩ = some (.int .i64 0) := (blk_cell K11.out 5).trans rfl
            have v6 : w16.cell? ⟨b11, 6, none⟩ = some (.int .i64 0) := (blk_cell K11.out 6).trans rfl
            have v7 : w16.cell? ⟨b11, 7, none⟩ = some (.bool false) := (blk_cell K11.out 7).trans rfl
            have v8 : w16.cell? ⟨b11, 8, none⟩ = some (.int .u16 0) := (blk_cell K11.out 8).trans rfl
            have v9 : w16.cell? ⟨b11, 9, none⟩ = some (.bool false) := (blk_cell K11.out 9).trans rfl
            have v10 : w16.cell? ⟨b11, 10, none⟩ = some (.int .u16 0) := (blk_cell K11.out 10).trans rfl
            have v11 : w16.cell? ⟨b11, 11, none⟩ = some (.bool false) := (blk_cell K11.out 11).trans rfl
            have v12 : w16.cell? ⟨b11, 12, none⟩ = some (.bool false) := (blk_cell K11.out 12).trans rfl
            have x0 : w16.cell? ⟨b13 + 1, 0, none⟩ = some (.int .u16 (le s n)) := (blk_cell K14.out 0).trans rfl
            have u0 : w16.cell? ⟨b5, 0, none⟩ = some (.int .u16 s) := (blk_cell K5.out 0).trans rfl
            have g5 := blk_frozen K5.out
            have ne11 := blk_ne K11.out K5.out (by decide)
            go_wp2
            go_roundg g
            case measure => omega
            case rel => exact ⟨n + 1, le s n, by simp [u5], ⟨(gnext hg.out).1, (gnext hg.out).2⟩, hs2, ⟨blk_put K5.out 0 _ rfl⟩, ⟨blk_far K6.out (by simp) _⟩, ⟨blk_far K11.out ne11 _⟩, ⟨below_set HB.out hge.out⟩⟩
        · obtain rfl : n = 11 := by have := hg.out; omega
          have b1 : decide ((11 : Int) ≤ 10) = false := rfl
          have CF := Lib.hid fun (w : World) => Choose_c s 0 0 0 Z 0 0 0 false 0 false 0 false false hs.out.1.1 (s64 hs.out.1) w
          rw [show (if alB 0 0 false false false false = true then chR (chI s) else (0, false)) = (0, false) by rw [okS_none hs.out]; rfl] at CF
          clear hs hg hlt
          have u0 : wr.cell? ⟨b5, 0, none⟩ = some (.int .u16 s) := (blk_cell K5.out 0).trans rfl
          have v0 : wr.cell? ⟨b11, 0, none⟩ = some (.int .u16 0) := (blk_cell K11.out 0).trans rfl
          have v1 : wr.cell? ⟨b11, 1, none⟩ = some (.int .u16 0) := (blk_cell K11.out 1).trans rfl
          have v2 : wr.cell? ⟨b11, 2, none⟩ = some (.int .u16 0) := (blk_cell K11.out 2).trans rfl
          have v3 : wr.cell? ⟨b11, 3, none⟩ = some (.int .i64 Z) := (blk_cell K11.out 3).trans rfl
          have v4 : wr.cell? ⟨b11, 4, none⟩ = some (.int .i64 0) := (blk_cell K11.out 4).trans rfl
          have v5 : wr.cell? ⟨b11, 5, none⟩ = some (.int .i64 0) := (blk_cell K11.out 5).trans rfl
          have v6 : wr.cell? ⟨b11, 6, none⟩ = some (.int .i64 0) := (blk_cell K11.out 6).trans rfl
          have v7 : wr.cell? ⟨b11, 7, none⟩ = some (.bool false) := (blk_cell K11.out 7).trans rfl
          have v8 : wr.cell? ⟨b11, 8, none⟩ = some (.int .u16 0) := (blk_cell K11.out 8).trans rfl
          have v9 : wr.cell? ⟨b11, 9, none⟩ = some (.bool false) := (blk_cell K11.out 9).trans rfl
          have v10 : wr.cell? ⟨b11, 10, none⟩ = some (.int .u16 0) := (blk_cell K11.out 10).trans rfl
          have v11 : wr.cell? ⟨b11, 11, none⟩ = some (.bool false) := (blk_cell K11.out 11).trans rfl
          have v12 : wr.cell? ⟨b11, 12, none⟩ = some (.bool false) := (blk_cell K11.out 12).trans rfl
          go_wp2_with (first | (go_at_call 18; (with_reducible refine at_args #[.agg #[.int .u16 s], .agg #[.int .u16 0, .int .u16 0, .int .u16 0, .int .i64 Z, .int .i64 0, .int .i64 0, .int .i64 0, .bool false, .int .u16 0, .bool false, .int .u16 0, .bool false, .bool false]] ?_); (with_reducible refine (CF.out _).mono ?_); rintro e w40 ⟨rfl, hbz⟩; have n5 := Aside0.mk (blk_below K5.out hbz); have n6 := Aside0.mk (blk_below K6.out hbz); have n11 := Aside0.mk (blk_below K11.out hbz); clear K5 K6 K11 u0 v0 v1 v2 v3 v4 v5 v6 v7 v8 v9 v10 v11 v12; have K5 := n5; have K6 := n6; have K11 := n11; clear n5 n6 n11; have HBn := Aside0.mk (below_step (by repeat (first | (with_reducible first | exact HB.out | apply below_alloc | apply pw_below_drewN | apply below_drew1) | exact HB.out)) hbz); clear HB; have HB := HBn; clear HBn; clear hbz) | (go_at_call 13; (with_reducible refine at_args #[] ?_); (with_reducible refine (works_c _).mono ?_); rintro e w41 ⟨rfl, hbz⟩; have HBn := Aside0.mk (below_step (by repeat (first | (with_reducible first | exact HB.out | apply below_alloc | apply pw_below_drewN | apply below_drew1) | exact HB.out)) hbz); clear HB; have HB := HBn; clear HBn; clear hbz))
          go_ret
          exact ⟨rfl, by repeat (first | (with_reducible first | exact HB.out | apply below_alloc | apply pw_below_drewN | apply below_drew1) | exact HB.out)⟩
theorem order_law (a0 : Option Addr) (len0 cap0 : Nat) (z0 : List Int) (a1 : Int) (w : World)
    (w0 : (a0 = none ∧ len0 = 0 ∧ cap0 = 0 ∧ z0 = []) ∨ ∃ x, a0 = some x ∧ len0 ≤ cap0 ∧ cap0 ≤ maxLen ∧ z0.length = cap0 ∧ (∀ i, i < z0.length → w.cell? (x.add i) = some (.int .u8 (z0.getD i 0))) ∧ ∀ n ∈ z0, (Lit.int .u8 n).wf = true) (y0 : len0 * 1 ≤ 140737488351232) (w1 : (Lit.int .u16 a1).wf = true) :
    Calls Try.prog 5 #[.slice a0 len0 cap0, .int .u16 a1] w fun e w' => e = .returned (.bool true) ∧ Below w.heap.size w w' := by
  obtain ⟨l2, rfl, hr2, hm2, hw2, hc2⟩ := ReadsInt.ofRowC w0
  obtain ⟨n, rfl, hn⟩ := wf16 w1
  exact order_calls _ _ l2 _ w (by omega) (by omega) (Kd.C_of_reads (d := (0 : Int)) (h1 := fun _ => rfl) hr2) hc2 (fun x hx => by obtain ⟨n, rfl, h⟩ := wf8 (hw2 x hx); omega)
end Go.Proofs.Ytejnppbkncfkeaa.Rup
