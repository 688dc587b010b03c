/- The chapter's examples: works returns true; no condition. -/
import Derived.Test.YtejnppbkncfkeaaRup5
import Derived.Test.YtejnppbkncfkeaaFE
import Derived.Test.YtejnppbkncfkeaaLit
import Derived.Shelf.Abstract
import Derived.Shelf.RegionOpen
namespace Go.Proofs.Ytejnppbkncfkeaa.Rup
open Go.RowKit Go.Proofs.Ytejnppbkncfkeaa.PAll Go.Proofs.YtejnppbkncfkeaaW.PrintWords Go.Proofs.YtejnppbkncfkeaaW.PrintLast Go.Proofs.YtejnppbkncfkeaaW.PrintMore Go.Proofs.Ytejnppbkncfkeaa.Plain Go.Proofs.Ytejnppbkncfkeaa.Lit
set_option linter.unusedVariables false
set_option linter.unusedSimpArgs false
set_option maxHeartbeats 2000000 in
theorem eqA26 (d : Nat) (w : World) (x0 y0 : Int) (x1 y1 : Int) (x2 y2 : Int) (x3 y3 : Int) (x4 y4 : Int) (x5 y5 : Int) (x6 y6 : Int) (x7 y7 : Bool) (x8 y8 : Int) (x9 y9 : Bool) (x10 y10 : Int) (x11 y11 : Bool) (x12 y12 : Bool) :
    (Op.equalIn (d + 2) 26 (.agg #[.int .u16 x0, .int .u16 x1, .int .u16 x2, .int .i64 x3, .int .i64 x4, .int .i64 x5, .int .i64 x6, .bool x7, .int .u16 x8, .bool x9, .int .u16 x10, .bool x11, .bool x12]) (.agg #[.int .u16 y0, .int .u16 y1, .int .u16 y2, .int .i64 y3, .int .i64 y4, .int .i64 y5, .int .i64 y6, .bool y7, .int .u16 y8, .bool y9, .int .u16 y10, .bool y11, .bool y12])).run Try.prog w = .ok (x0 == y0 && (x1 == y1 && (x2 == y2 && (x3 == y3 && (x4 == y4 && (x5 == y5 && (x6 == y6 && (x7 == y7 && (x8 == y8 && (x9 == y9 && (x10 == y10 && (x11 == y11 && (x12 == y12))))))))))))) w := by
  refine eqA_of Try.underlying26 (by kernel_rfl) ?_
  refine eqf_cons (by rfl) (by go_simp; rfl) (by go_simp; rfl) (by go_simp) ?_
  refine eqf_cons (by rfl) (by go_simp; rfl) (by go_simp; rfl) (by go_simp) ?_
  refine eqf_cons (by rfl) (by go_simp; rfl) (by go_simp; rfl) (by go_simp) ?_
  refine eqf_cons (by rfl) (by go_simp; rfl) (by go_simp; rfl) (by go_simp) ?_
  refine eqf_cons (by rfl) (by go_simp; rfl) (by go_simp; rfl) (by go_simp) ?_
  refine eqf_cons (by rfl) (by go_simp; rfl) (by go_simp; rfl) (by go_simp) ?_
  refine eqf_cons (by rfl) (by go_simp; rfl) (by go_simp; rfl) (by go_simp) ?_
  refine eqf_cons (by rfl) (by go_simp; rfl) (by go_simp; rfl) (by go_simp) ?_
  refine eqf_cons (by rfl) (by go_simp; rfl) (by go_simp; rfl) (by go_simp) ?_
  refine eqf_cons (by rfl) (by go_simp; rfl) (by go_simp; rfl) (by go_simp) ?_
  refine eqf_cons (by rfl) (by go_simp; rfl) (by go_simp; rfl) (by go_simp) ?_
  refine eqf_cons (by rfl) (by go_simp; rfl) (by go_simp; rfl) (by go_simp) ?_
  exact eqf_last (by rfl) (by go_simp; rfl) (by go_simp; rfl) (by go_simp)
theorem eqS26 (d : Nat) (w : World) (x0 : Int) (x1 : Int) (x2 : Int) (x3 : Int) (x4 : Int) (x5 : Int) (x6 : Int) (x7 : Bool) (x8 : Int) (x9 : Bool) (x10 : Int) (x11 : Bool) (x12 : Bool) :
    (Op.equalIn (d + 2) 26 (.agg #[.int .u16 x0, .int .u16 x1, .int .u16 x2, .int .i64 x3, .int .i64 x4, .int .i64 x5, .int .i64 x6, .bool x7, .int .u16 x8, .bool x9, .int .u16 x10, .bool x11, .bool x12]) (.agg #[.int .u16 x0, .int .u16 x1, .int .u16 x2, .int .i64 x3, .int .i64 x4, .int .i64 x5, .int .i64 x6, .bool x7, .int .u16 x8, .bool x9, .int .u16 x10, .bool x11, .bool x12])).run Try.prog w = .ok true w := by
  rw [eqA26]; simp
theorem eqA28 (d : Nat) (w : World) (x0 y0 : Int) :
    (Op.equalIn (d + 2) 28 (.agg #[.int .u16 x0]) (.agg #[.int .u16 y0])).run Try.prog w = .ok (x0 == y0) w := by
  refine eqA_of Try.underlying28 (by kernel_rfl) ?_
  exact eqf_last (by rfl) (by go_simp; rfl) (by go_simp; rfl) (by go_simp)
theorem litI {k : IntKind} (W : World) {e : TypeId} (xs : List Int) (a n : Nat) (ha : a = W.heap.size) (hn : n = xs.length) (hm : xs.length ≤ 9223372036854775807) : Kd.C (Kd.int k) (W.alloc (.cells (xs.map (Value.int k)).toArray e)) (some ⟨a, 0, none⟩) n xs := by
  have h := lit_any (Kd.int k) (fun x => [Value.int k x]) (fun _ _ => rfl) W e xs a n ha hn hm
  have e1 : ∀ l : List Int, l.flatMap (fun x => [Value.int k x]) = l.map (Value.int k) := fun l => by
    induction l with
    | nil => rfl
    | cons x l ih => rw [List.flatMap_cons, ih]; rfl
  rwa [e1] at h
theorem litC (W : World) (xs : List S49) (a n : Nat) (ha : a = W.heap.size) (hn : n = xs.length) (hm : xs.length ≤ 9223372036854775807) : Kd.C k49 (W.alloc (.cells (xs.flatMap fun x => [Value.int .i64 x.f0, Value.int .u16 x.f1]).toArray 49)) (some ⟨a, 0, none⟩) n xs :=
  lit_any k49 _ (fun w x => k49_mk w x) W 49 xs a n ha hn hm
theorem drawn_below {w W : World} {nd : Nat} (h : W = w.drewN nd) : Below w.heap.size w W := by rw [h]; exact pw_below_drewN (Below.refl _ _) _
set_option maxRecDepth 100000 in
set_option maxHeartbeats 4000000 in
theorem works_c (w : World) : Calls Try.prog 13 #[] w fun e w' => e = .returned (.bool true) ∧ Below w.heap.size w w' := by
  have HB := Aside0.mk (Below.refl w.heap.size w)
  have PA := Lib.hid (show ∀ (w : World) (A : Option Addr) (c : Nat), Kd.C (Kd.int .i64) w A 2 [5, 2] → 2 ≤ c → Calls Try.prog 22 #[.slice A 2 c] w (fun e w' => e = .returned (.agg #[.int .u16 36]) ∧ Below w.heap.size w w') from fun w A c h hc => perilunelaw07_pending.calls 10 A c [5, 2] 36 w h hc (by kernel_rfl))
  have PB := Lib.hid (show ∀ (w : World) (A : Option Addr) (c : Nat), Kd.C (Kd.int .i64) w A 2 [2, 5] → 2 ≤ c → Calls Try.prog 22 #[.slice A 2 c] w (fun e w' => e = .returned (.agg #[.int .u16 36]) ∧ Below w.heap.size w w') from fun w A c h hc => perilunelaw07_pending.calls 10 A c [2, 5] 36 w h hc (by kernel_rfl))
  have PC := Lib.hid (show ∀ (w : World) (A : Option Addr) (c : Nat), Kd.C (Kd.int .i64) w A 1 [5] → 1 ≤ c → Calls Try.prog 22 #[.slice A 1 c] w (fun e w' => e = .returned (.agg #[.int .u16 32]) ∧ Below w.heap.size w w') from fun w A c h hc => perilunelaw07_pending.calls 10 A c [5] 32 w h hc (by kernel_rfl))
  have CH := Lib.hid fun (w : World) => interrupt_Choose.calls 0 36 0 0 0 0 0 0 0 false 0 false 0 false false 2 true w (by kernel_rfl)
  have EN := Lib.hid fun (w : World) => Enter_c3 7 0 0 3000 0 0 0 false 0 false 0 false false 36 12388 2 (by decide) (by decide) (by decide) (by decide) (by decide) (by decide) (by decide) w
  rw [show le 36 2 = 32 by decide, show IntKind.u16.wrap 3000 = 3000 by decide, show (12388 : Int) % 32768 = 12388 by decide, show (2048 : Int) + 4 * 2 = 2056 by decide] at EN
  have LE := Lib.hid (show ∀ (w : World) (A : Option Addr) (c : Nat), Kd.C (Kd.int .u16) w A 16 [0, 0, 0, 0, 0, 0, 0, 0, 0, 0, 0, 0, 0, 3000, 0, 12388] → 16 ≤ c → Calls Try.prog 11 #[.agg #[.int .u16 0, .int .u16 0, .int .u16 0, .int .i64 2060, .int .i64 0, .int .i64 0, .int .i64 0, .bool false, .int .u16 0, .bool false, .int .u16 0, .bool false, .bool true], .slice A 16 c] w (fun e w' => e = .returned (.agg #[.int .u16 0, .int .u16 0, .int .u16 0, .int .i64 3000, .int .i64 0, .int .i64 0, .int .i64 0, .bool false, .int .u16 0, .bool true, .int .u16 12388, .bool false, .bool false]) ∧ Below w.heap.size w w') from fun w A c h hc => interrupt_Leave.calls 0 0 0 2060 0 0 0 false 0 false 0 false true A c [0, 0, 0, 0, 0, 0, 0, 0, 0, 0, 0, 0, 0, 3000, 0, 12388] 0 0 0 3000 0 0 0 false 0 true 12388 false false w h hc (by kernel_rfl))
  have CE := Lib.hid (show ∀ (w : World) (A B : Option Addr) (c d : Nat), Kd.C k49 w A 2 [⟨13, 3000⟩, ⟨15, 12388⟩] → 2 ≤ c → Kd.C k49 w B 2 [⟨13, 3000⟩, ⟨15, 12388⟩] → 2 ≤ d → Calls Try.prog 23 #[.slice A 2 c, .slice B 2 d] w (fun e w' => e = .returned (.bool true) ∧ Drawn0 w w') from fun w A B c d h hc k hd => perilunelaw07_cells.calls 20 A c [⟨13, 3000⟩, ⟨15, 12388⟩] B d [⟨13, 3000⟩, ⟨15, 12388⟩] true w h hc k hd (by kernel_rfl))
  go_enter Try.func13, Try.ntmps13
  go_upto_region 3 with (first | (go_at_call 22; (with_reducible refine at_args #[.slice _ 2 2] ?_); (with_reducible refine (PA.out _ _ 2 ?hlPA (by decide)).mono ?_); (case hlPA => exact (litI _ [5, 2] _ _ (by first | rfl | (simp; done)) rfl (by decide))); rintro e w' ⟨rfl, hbz⟩; have HBn := Aside0.mk (below_step (by repeat (first | (with_reducible first | exact HB.out | apply below_alloc | apply pw_below_drewN | apply below_drew1) | exact HB.out)) hbz); clear HB; have HB := HBn; clear HBn; clear hbz) | (go_at_call 22; (with_reducible refine at_args #[.slice _ 2 2] ?_); (with_reducible refine (PB.out _ _ 2 ?hlPB (by decide)).mono ?_); (case hlPB => exact (litI _ [2, 5] _ _ (by first | rfl | (simp; done)) rfl (by decide))); rintro e w' ⟨rfl, hbz⟩; have HBn := Aside0.mk (below_step (by repeat (first | (with_reducible first | exact HB.out | apply below_alloc | apply pw_below_drewN | apply below_drew1) | exact HB.out)) hbz); clear HB; have HB := HBn; clear HBn; clear hbz) | (go_at_call 18; (with_reducible refine at_args #[.agg #[.int .u16 36], .agg #[.int .u16 0, .int .u16 0, .int .u16 0, .int .i64 0, .int .i64 0, .int .i64 0, .int .i64 0, .bool false, .int .u16 0, .bool false, .int .u16 0, .bool false, .bool false]] ?_); (with_reducible refine (CH.out _).mono ?_); rintro e w' ⟨rfl, hbz⟩; have HBn := Aside0.mk (below_step (by repeat (first | (with_reducible first | exact HB.out | apply below_alloc | apply pw_below_drewN | apply below_drew1) | exact HB.out)) hbz); clear HB; have HB := HBn; clear HBn; clear hbz) | (go_at_call 8; (with_reducible refine at_args #[.agg #[.int .u16 7, .int .u16 0, .int .u16 0, .int .i64 3000, .int .i64 0, .int .i64 0, .int .i64 0, .bool false, .int .u16 0, .bool false, .int .u16 0, .bool false, .bool false], .agg #[.int .u16 36], .int .u16 12388] ?_); (with_reducible refine (EN.out _).mono ?_); rintro e we ⟨v, rfl, hR, hbz⟩; obtain ⟨A, c, rfl, hc, hC⟩ := Kd.R_reads hR; have RC := Aside0.mk hC; clear hR hC; have HBn := Aside0.mk (below_step (by repeat (first | (with_reducible first | exact HB.out | apply below_alloc | apply pw_below_drewN | apply below_drew1) | exact HB.out)) hbz); clear HB; have HB := HBn; clear HBn; clear hbz))
  clear PA PB CH EN
  have K3a : Aside0 ((World.heap (((we.alloc (.cells #[.int .u16 7, .int .u16 0, .int .u16 0, .int .i64 2056, .int .i64 0, .int .i64 0, .int .i64 0, .bool false, .int .u16 0, .bool false, .int .u16 0, .bool false, .bool true] 26)).alloc (.cells #[.int .u16 32] 28)).alloc (.cells #[.int .u16 0, .int .u16 0, .int .u16 0, .int .u16 0, .int .u16 0, .int .u16 0, .int .u16 0, .int .u16 0, .int .u16 0, .int .u16 0, .int .u16 0, .int .u16 0, .int .u16 0, .int .u16 3000, .int .u16 0, .int .u16 12388] 24)))[we.heap.size]? = some (.cells #[.int .u16 7, .int .u16 0, .int .u16 0, .int .i64 2056, .int .i64 0, .int .i64 0, .int .i64 0, .bool false, .int .u16 0, .bool false, .int .u16 0, .bool false, .bool true] 26 (0, 0))) := ⟨blk_alloc (blk_alloc (blk_new we _) _) _⟩
  have K4a : Aside0 ((World.heap (((we.alloc (.cells #[.int .u16 7, .int .u16 0, .int .u16 0, .int .i64 2056, .int .i64 0, .int .i64 0, .int .i64 0, .bool false, .int .u16 0, .bool false, .int .u16 0, .bool false, .bool true] 26)).alloc (.cells #[.int .u16 32] 28)).alloc (.cells #[.int .u16 0, .int .u16 0, .int .u16 0, .int .u16 0, .int .u16 0, .int .u16 0, .int .u16 0, .int .u16 0, .int .u16 0, .int .u16 0, .int .u16 0, .int .u16 0, .int .u16 0, .int .u16 3000, .int .u16 0, .int .u16 12388] 24)))[we.heap.size + 1]? = some (.cells #[.int .u16 32] 28 (0, 0))) := ⟨by have h := blk_alloc (blk_new (we.alloc (.cells #[.int .u16 7, .int .u16 0, .int .u16 0, .int .i64 2056, .int .i64 0, .int .i64 0, .int .i64 0, .bool false, .int .u16 0, .bool false, .int .u16 0, .bool false, .bool true] 26)) (.cells #[.int .u16 32] 28)) (.cells #[.int .u16 0, .int .u16 0, .int .u16 0, .int .u16 0, .int .u16 0, .int .u16 0, .int .u16 0, .int .u16 0, .int .u16 0, .int .u16 0, .int .u16 0, .int .u16 0, .int .u16 0, .int .u16 3000, .int .u16 0, .int .u16 12388] 24); rw [World.size_alloc] at h; exact h⟩
  go_upto_region 4 with (go_at_call 11; (with_reducible refine at_args #[.agg #[.int .u16 0, .int .u16 0, .int .u16 0, .int .i64 2060, .int .i64 0, .int .i64 0, .int .i64 0, .bool false, .int .u16 0, .bool false, .int .u16 0, .bool false, .bool true], .slice _ 16 16] ?_); (with_reducible refine (LE.out _ _ 16 ?hlL (by decide)).mono ?_); (case hlL => exact (litI _ [0, 0, 0, 0, 0, 0, 0, 0, 0, 0, 0, 0, 0, 3000, 0, 12388] _ _ (by first | rfl | (simp; done)) rfl (by decide))); rintro e wl ⟨rfl, hbz⟩; have K3 := Aside0.mk (blk_below K3a.out hbz); have K4 := Aside0.mk (blk_below K4a.out hbz); replace RC := Aside0.mk (Kd.C_below (Kd.C_alloc (Kd.C_alloc (Kd.C_alloc RC.out _) _) _) hbz); clear K3a K4a; have HBn := Aside0.mk (below_step (by repeat (first | (with_reducible first | exact HB.out | apply below_alloc | apply pw_below_drewN | apply below_drew1) | exact HB.out)) hbz); clear HB; have HB := HBn; clear HBn; clear hbz)
  have n3 : Aside0 ((World.heap (wl.alloc (.cells #[.int .u16 0, .int .u16 0, .int .u16 0, .int .i64 3000, .int .i64 0, .int .i64 0, .int .i64 0, .bool false, .int .u16 0, .bool true, .int .u16 12388, .bool false, .bool false] 26)))[we.heap.size]? = some (.cells #[.int .u16 7, .int .u16 0, .int .u16 0, .int .i64 2056, .int .i64 0, .int .i64 0, .int .i64 0, .bool false, .int .u16 0, .bool false, .int .u16 0, .bool false, .bool true] 26 (0, 0))) := ⟨blk_alloc K3.out _⟩
  have n4 : Aside0 ((World.heap (wl.alloc (.cells #[.int .u16 0, .int .u16 0, .int .u16 0, .int .i64 3000, .int .i64 0, .int .i64 0, .int .i64 0, .bool false, .int .u16 0, .bool true, .int .u16 12388, .bool false, .bool false] 26)))[we.heap.size + 1]? = some (.cells #[.int .u16 32] 28 (0, 0))) := ⟨blk_alloc K4.out _⟩
  have n8 : Aside0 ((World.heap (wl.alloc (.cells #[.int .u16 0, .int .u16 0, .int .u16 0, .int .i64 3000, .int .i64 0, .int .i64 0, .int .i64 0, .bool false, .int .u16 0, .bool true, .int .u16 12388, .bool false, .bool false] 26)))[wl.heap.size]? = some (.cells #[.int .u16 0, .int .u16 0, .int .u16 0, .int .i64 3000, .int .i64 0, .int .i64 0, .int .i64 0, .bool false, .int .u16 0, .bool true, .int .u16 12388, .bool false, .bool false] 26 (0, 0))) := ⟨blk_new wl _⟩
  have nR : Aside0 (Kd.C k49 (wl.alloc (.cells #[.int .u16 0, .int .u16 0, .int .u16 0, .int .i64 3000, .int .i64 0, .int .i64 0, .int .i64 0, .bool false, .int .u16 0, .bool true, .int .u16 12388, .bool false, .bool false] 26)) A 2 [⟨13, 3000⟩, ⟨15, 12388⟩]) := ⟨Kd.C_alloc RC.out _⟩
  have nB : Aside0 (Below w.heap.size w (wl.alloc (.cells #[.int .u16 0, .int .u16 0, .int .u16 0, .int .i64 3000, .int .i64 0, .int .i64 0, .int .i64 0, .bool false, .int .u16 0, .bool true, .int .u16 12388, .bool false, .bool false] 26))) := ⟨below_alloc HB.out _⟩
  clear K3 K4 RC HB LE
  generalize wl.alloc (.cells #[.int .u16 0, .int .u16 0, .int .u16 0, .int .i64 3000, .int .i64 0, .int .i64 0, .int .i64 0, .bool false, .int .u16 0, .bool true, .int .u16 12388, .bool false, .bool false] 26) = wr at n3 n4 n8 nR nB ⊢
  obtain ⟨b3, hb3⟩ : ∃ x, we.heap.size = x := ⟨_, rfl⟩
  obtain ⟨b8, hb8⟩ : ∃ x, wl.heap.size = x := ⟨_, rfl⟩
  rw [hb3] at n3 n4 ⊢
  rw [hb8] at n8 ⊢
  clear hb3 hb8
  have RC := nR
  have HB := nB
  clear nR nB
  have x0 : wr.cell? ⟨b3, 0, none⟩ = some (.int .u16 7) := (blk_cell n3.out 0).trans rfl
  have x1 : wr.cell? ⟨b3, 1, none⟩ = some (.int .u16 0) := (blk_cell n3.out 1).trans rfl
  have x2 : wr.cell? ⟨b3, 2, none⟩ = some (.int .u16 0) := (blk_cell n3.out 2).trans rfl
  have x3 : wr.cell? ⟨b3, 3, none⟩ = some (.int .i64 2056) := (blk_cell n3.out 3).trans rfl
  have x4 : wr.cell? ⟨b3, 4, none⟩ = some (.int .i64 0) := (blk_cell n3.out 4).trans rfl
  have x5 : wr.cell? ⟨b3, 5, none⟩ = some (.int .i64 0) := (blk_cell n3.out 5).trans rfl
  have x6 : wr.cell? ⟨b3, 6, none⟩ = some (.int .i64 0) := (blk_cell n3.out 6).trans rfl
  have x7 : wr.cell? ⟨b3, 7, none⟩ = some (.bool false) := (blk_cell n3.out 7).trans rfl
  have x8 : wr.cell? ⟨b3, 8, none⟩ = some (.int .u16 0) := (blk_cell n3.out 8).trans rfl
  have x9 : wr.cell? ⟨b3, 9, none⟩ = some (.bool false) := (blk_cell n3.out 9).trans rfl
  have x10 : wr.cell? ⟨b3, 10, none⟩ = some (.int .u16 0) := (blk_cell n3.out 10).trans rfl
  have x11 : wr.cell? ⟨b3, 11, none⟩ = some (.bool false) := (blk_cell n3.out 11).trans rfl
  have x12 : wr.cell? ⟨b3, 12, none⟩ = some (.bool true) := (blk_cell n3.out 12).trans rfl
  have u0 : wr.cell? ⟨b3 + 1, 0, none⟩ = some (.int .u16 32) := (blk_cell n4.out 0).trans rfl
  have y0 : wr.cell? ⟨b8, 0, none⟩ = some (.int .u16 0) := (blk_cell n8.out 0).trans rfl
  have y1 : wr.cell? ⟨b8, 1, none⟩ = some (.int .u16 0) := (blk_cell n8.out 1).trans rfl
  have y2 : wr.cell? ⟨b8, 2, none⟩ = some (.int .u16 0) := (blk_cell n8.out 2).trans rfl
  have y3 : wr.cell? ⟨b8, 3, none⟩ = some (.int .i64 3000) := (blk_cell n8.out 3).trans rfl
  have y4 : wr.cell? ⟨b8, 4, none⟩ = some (.int .i64 0) := (blk_cell n8.out 4).trans rfl
  have y5 : wr.cell? ⟨b8, 5, none⟩ = some (.int .i64 0) := (blk_cell n8.out 5).trans rfl
  have y6 : wr.cell? ⟨b8, 6, none⟩ = some (.int .i64 0) := (blk_cell n8.out 6).trans rfl
  have y7 : wr.cell? ⟨b8, 7, none⟩ = some (.bool false) := (blk_cell n8.out 7).trans rfl
  have y8 : wr.cell? ⟨b8, 8, none⟩ = some (.int .u16 0) := (blk_cell n8.out 8).trans rfl
  have y9 : wr.cell? ⟨b8, 9, none⟩ = some (.bool true) := (blk_cell n8.out 9).trans rfl
  have y10 : wr.cell? ⟨b8, 10, none⟩ = some (.int .u16 12388) := (blk_cell n8.out 10).trans rfl
  have y11 : wr.cell? ⟨b8, 11, none⟩ = some (.bool false) := (blk_cell n8.out 11).trans rfl
  have y12 : wr.cell? ⟨b8, 12, none⟩ = some (.bool false) := (blk_cell n8.out 12).trans rfl
  clear n3 n4 n8
  have h26 := fun d w => eqS26 d w 7 0 0 2056 0 0 0 false 0 false 0 false true
  have h26b := fun d w => eqS26 d w 0 0 0 3000 0 0 0 false 0 true 12388 false false
  have h28 := fun d w => eqA28 d w 32 32
  refine start_ (n := 37) (S := fun w' => w'.cell? ⟨b3, 0, none⟩ = some (.int .u16 7) ∧ w'.cell? ⟨b3, 1, none⟩ = some (.int .u16 0) ∧ w'.cell? ⟨b3, 2, none⟩ = some (.int .u16 0) ∧ w'.cell? ⟨b3, 3, none⟩ = some (.int .i64 2056) ∧ w'.cell? ⟨b3, 4, none⟩ = some (.int .i64 0) ∧ w'.cell? ⟨b3, 5, none⟩ = some (.int .i64 0) ∧ w'.cell? ⟨b3, 6, none⟩ = some (.int .i64 0) ∧ w'.cell? ⟨b3, 7, none⟩ = some (.bool false) ∧ w'.cell? ⟨b3, 8, none⟩ = some (.int .u16 0) ∧ w'.cell? ⟨b3, 9, none⟩ = some (.bool false) ∧ w'.cell? ⟨b3, 10, none⟩ = some (.int .u16 0) ∧ w'.cell? ⟨b3, 11, none⟩ = some (.bool false) ∧ w'.cell? ⟨b3, 12, none⟩ = some (.bool true) ∧ w'.cell? ⟨b3 + 1, 0, none⟩ = some (.int .u16 32) ∧ w'.cell? ⟨b8, 0, none⟩ = some (.int .u16 0) ∧ w'.cell? ⟨b8, 1, none⟩ = some (.int .u16 0) ∧ w'.cell? ⟨b8, 2, none⟩ = some (.int .u16 0) ∧ w'.cell? ⟨b8, 3, none⟩ = some (.int .i64 3000) ∧ w'.cell? ⟨b8, 4, none⟩ = some (.int .i64 0) ∧ w'.cell? ⟨b8, 5, none⟩ = some (.int .i64 0) ∧ w'.cell? ⟨b8, 6, none⟩ = some (.int .i64 0) ∧ w'.cell? ⟨b8, 7, none⟩ = some (.bool false) ∧ w'.cell? ⟨b8, 8, none⟩ = some (.int .u16 0) ∧ w'.cell? ⟨b8, 9, none⟩ = some (.bool true) ∧ w'.cell? ⟨b8, 10, none⟩ = some (.int .u16 12388) ∧ w'.cell? ⟨b8, 11, none⟩ = some (.bool false) ∧ w'.cell? ⟨b8, 12, none⟩ = some (.bool false)) (ds := []) #[false, false, false, false, false, false, false, false, false, false, false, false, false, false, false, false, false, false, false, false, false, false, false, false, false, false, false, false, false, false, false, false, false, false, false, false, false] (by kernel_rfl) rfl rfl ⟨x0, x1, x2, x3, x4, x5, x6, x7, x8, x9, x10, x11, x12, u0, y0, y1, y2, y3, y4, y5, y6, y7, y8, y9, y10, y11, y12⟩ (fun hHeld => ?_)
  replace RC : Aside0 (Kd.C k49 wr.drew A 2 [⟨13, 3000⟩, ⟨15, 12388⟩]) := ⟨Kd.C_drew RC.out⟩
  replace HB : Aside0 (Below w.heap.size w wr.drew) := ⟨below_drew1 HB.out⟩
  change wr.drew.cell? _ = _ at x0
  change wr.drew.cell? _ = _ at x1
  change wr.drew.cell? _ = _ at x2
  change wr.drew.cell? _ = _ at x3
  change wr.drew.cell? _ = _ at x4
  change wr.drew.cell? _ = _ at x5
  change wr.drew.cell? _ = _ at x6
  change wr.drew.cell? _ = _ at x7
  change wr.drew.cell? _ = _ at x8
  change wr.drew.cell? _ = _ at x9
  change wr.drew.cell? _ = _ at x10
  change wr.drew.cell? _ = _ at x11
  change wr.drew.cell? _ = _ at x12
  change wr.drew.cell? _ = _ at u0
  change wr.drew.cell? _ = _ at y0
  change wr.drew.cell? _ = _ at y1
  change wr.drew.cell? _ = _ at y2
  change wr.drew.cell? _ = _ at y3
  change wr.drew.cell? _ = _ at y4
  change wr.drew.cell? _ = _ at y5
  change wr.drew.cell? _ = _ at y6
  change wr.drew.cell? _ = _ at y7
  change wr.drew.cell? _ = _ at y8
  change wr.drew.cell? _ = _ at y9
  change wr.drew.cell? _ = _ at y10
  change wr.drew.cell? _ = _ at y11
  change wr.drew.cell? _ = _ at y12
  generalize wr.drew = wd at RC HB x0 x1 x2 x3 x4 x5 x6 x7 x8 x9 x10 x11 x12 u0 y0 y1 y2 y3 y4 y5 y6 y7 y8 y9 y10 y11 y12 hHeld ⊢
  refine pure_ (i := 0) (N := some 29) (v := ?_) (a' := ?_) #[true, false, false, false, false, false, false, false, false, false, false, false, false, false, false, false, false, false, false, false, false, false, false, false, false, false, false, false, false, false, false, false, false, false, false, false, false] rfl rfl (by kernel_rfl) (fun _ _ _ h => h) (Or.inl ⟨by rfl, ?_⟩) ?_ ?_
  rotate_left
  · intro w'
    go_simp
    with_reducible rfl
  rotate_left
  · simp only [Act.put, List.setIfInBounds_toArray, List.set_cons_zero, List.set_cons_succ, i64_w, i32_w]
    rfl
  refine pure_ (i := 1) (N := some 30) (v := ?_) (a' := ?_) #[true, true, false, false, false, false, false, false, false, false, false, false, false, false, false, false, false, false, false, false, false, false, false, false, false, false, false, false, false, false, false, false, false, false, false, false, false] rfl rfl (by kernel_rfl) (fun _ _ _ h => h) (Or.inl ⟨by rfl, ?_⟩) ?_ ?_
  rotate_left
  · intro w'
    go_simp
    with_reducible rfl
  rotate_left
  · simp only [Act.put, List.setIfInBounds_toArray, List.set_cons_zero, List.set_cons_succ, i64_w, i32_w]
    rfl
  refine pure_ (i := 2) (N := some 31) (v := ?_) (a' := ?_) #[true, true, true, false, false, false, false, false, false, false, false, false, false, false, false, false, false, false, false, false, false, false, false, false, false, false, false, false, false, false, false, false, false, false, false, false, false] rfl rfl (by kernel_rfl) (fun _ _ _ h => h) (Or.inl ⟨by rfl, ?_⟩) ?_ ?_
  rotate_left
  · intro w'
    go_simp
    with_reducible rfl
  rotate_left
  · simp only [Act.put, List.setIfInBounds_toArray, List.set_cons_zero, List.set_cons_succ, i64_w, i32_w]
    rfl
  refine pure_ (i := 3) (N := some 32) (v := ?_) (a' := ?_) #[true, true, true, true, false, false, false, false, false, false, false, false, false, false, false, false, false, false, false, false, false, false, false, false, false, false, false, false, false, false, false, false, false, false, false, false, false] rfl rfl (by kernel_rfl) (fun _ _ _ h => h) (Or.inl ⟨by rfl, ?_⟩) ?_ ?_
  rotate_left
  · intro w'
    go_simp
    with_reducible rfl
  rotate_left
  · simp only [Act.put, List.setIfInBounds_toArray, List.set_cons_zero, List.set_cons_succ, i64_w, i32_w]
    rfl
  refine pure_ (i := 4) (N := some 33) (v := ?_) (a' := ?_) #[true, true, true, true, true, false, false, false, false, false, false, false, false, false, false, false, false, false, false, false, false, false, false, false, false, false, false, false, false, false, false, false, false, false, false, false, false] rfl rfl (by kernel_rfl) (fun _ _ _ h => h) (Or.inl ⟨by rfl, ?_⟩) ?_ ?_
  rotate_left
  · intro w'
    go_simp
    with_reducible rfl
  rotate_left
  · simp only [Act.put, List.setIfInBounds_toArray, List.set_cons_zero, List.set_cons_succ, i64_w, i32_w]
    rfl
  refine pure_ (i := 5) (N := some 34) (v := ?_) (a' := ?_) #[true, true, true, true, true, true, false, false, false, false, false, false, false, false, false, false, false, false, false, false, false, false, false, false, false, false, false, false, false, false, false, false, false, false, false, false, false] rfl rfl (by kernel_rfl) (fun _ _ _ h => h) (Or.inl ⟨by rfl, ?_⟩) ?_ ?_
  rotate_left
  · intro w'
    go_simp
    with_reducible rfl
  rotate_left
  · simp only [Act.put, List.setIfInBounds_toArray, List.set_cons_zero, List.set_cons_succ, i64_w, i32_w]
    rfl
  refine pure_ (i := 6) (N := some 35) (v := ?_) (a' := ?_) #[true, true, true, true, true, true, true, false, false, false, false, false, false, false, false, false, false, false, false, false, false, false, false, false, false, false, false, false, false, false, false, false, false, false, false, false, false] rfl rfl (by kernel_rfl) (fun _ _ _ h => h) (Or.inl ⟨by rfl, ?_⟩) ?_ ?_
  rotate_left
  · intro w'
    go_simp
    with_reducible rfl
  rotate_left
  · simp only [Act.put, List.setIfInBounds_toArray, List.set_cons_zero, List.set_cons_succ, i64_w, i32_w]
    rfl
  refine pure_ (i := 7) (N := some 36) (v := ?_) (a' := ?_) #[true, true, true, true, true, true, true, true, false, false, false, false, false, false, false, false, false, false, false, false, false, false, false, false, false, false, false, false, false, false, false, false, false, false, false, false, false] rfl rfl (by kernel_rfl) (fun _ _ _ h => h) (Or.inl ⟨by rfl, ?_⟩) ?_ ?_
  rotate_left
  · intro w'
    go_simp
    with_reducible rfl
  rotate_left
  · simp only [Act.put, List.setIfInBounds_toArray, List.set_cons_zero, List.set_cons_succ, i64_w, i32_w]
    rfl
  refine pure_ (i := 8) (N := some 37) (v := ?_) (a' := ?_) #[true, true, true, true, true, true, true, true, true, false, false, false, false, false, false, false, false, false, false, false, false, false, false, false, false, false, false, false, false, false, false, false, false, false, false, false, false] rfl rfl (by kernel_rfl) (fun _ _ _ h => h) (Or.inl ⟨by rfl, ?_⟩) ?_ ?_
  rotate_left
  · intro w'
    go_simp
    with_reducible rfl
  rotate_left
  · simp only [Act.put, List.setIfInBounds_toArray, List.set_cons_zero, List.set_cons_succ, i64_w, i32_w]
    rfl
  refine pure_ (i := 9) (N := some 38) (v := ?_) (a' := ?_) #[true, true, true, true, true, true, true, true, true, true, false, false, false, false, false, false, false, false, false, false, false, false, false, false, false, false, false, false, false, false, false, false, false, false, false, false, false] rfl rfl (by kernel_rfl) (fun _ _ _ h => h) (Or.inl ⟨by rfl, ?_⟩) ?_ ?_
  rotate_left
  · intro w'
    go_simp
    with_reducible rfl
  rotate_left
  · simp only [Act.put, List.setIfInBounds_toArray, List.set_cons_zero, List.set_cons_succ, i64_w, i32_w]
    rfl
  refine pure_ (i := 11) (N := some 40) (v := ?_) (a' := ?_) #[true, true, true, true, true, true, true, true, true, true, false, true, false, false, false, false, false, false, false, false, false, false, false, false, false, false, false, false, false, false, false, false, false, false, false, false, false] rfl rfl (by kernel_rfl) (fun _ _ _ h => h) (Or.inl ⟨by rfl, ?_⟩) ?_ ?_
  rotate_left
  · intro w'
    go_simp
    with_reducible rfl
  rotate_left
  · simp only [Act.put, List.setIfInBounds_toArray, List.set_cons_zero, List.set_cons_succ, i64_w, i32_w]
    rfl
  refine take_ (i := 10) (N := some 39) (v := ?_) (a' := ?_) #[true, true, true, true, true, true, true, true, true, true, true, true, false, false, false, false, false, false, false, false, false, false, false, false, false, false, false, false, false, false, false, false, false, false, false, false, false] rfl rfl (by kernel_rfl) (fun _ _ _ h => h) (Or.inl ⟨by rfl, ?_⟩) hHeld ?_ ?_
  rotate_left
  · rintro w' ⟨s0, s1, s2, s3, s4, s5, s6, s7, s8, s9, s10, s11, s12, s13, s14, s15, s16, s17, s18, s19, s20, s21, s22, s23, s24, s25, s26⟩
    go_simp
    with_reducible rfl
  rotate_left
  · simp only [Act.put, List.setIfInBounds_toArray, List.set_cons_zero, List.set_cons_succ, i64_w, i32_w]
    rfl
  refine pure_ (i := 12) (N := some 41) (v := ?_) (a' := ?_) #[true, true, true, true, true, true, true, true, true, true, true, true, true, false, false, false, false, false, false, false, false, false, false, false, false, false, false, false, false, false, false, false, false, false, false, false, false] rfl rfl (by kernel_rfl) (fun _ _ _ h => h) (Or.inl ⟨by rfl, ?_⟩) ?_ ?_
  rotate_left
  · intro w'
    go_simp
    with_reducible rfl
  rotate_left
  · simp only [Act.put, List.setIfInBounds_toArray, List.set_cons_zero, List.set_cons_succ, i64_w, i32_w]
    rfl
  refine pure_ (i := 13) (N := some 42) (v := ?_) (a' := ?_) #[true, true, true, true, true, true, true, true, true, true, true, true, true, true, false, false, false, false, false, false, false, false, false, false, false, false, false, false, false, false, false, false, false, false, false, false, false] rfl rfl (by kernel_rfl) (fun _ _ _ h => h) (Or.inl ⟨by rfl, ?_⟩) ?_ ?_
  rotate_left
  · intro w'
    go_simp
    with_reducible rfl
  rotate_left
  · simp only [Act.put, List.setIfInBounds_toArray, List.set_cons_zero, List.set_cons_succ, i64_w, i32_w]
    rfl
  refine pure_ (i := 14) (N := some 43) (v := ?_) (a' := ?_) #[true, true, true, true, true, true, true, true, true, true, true, true, true, true, true, false, false, false, false, false, false, false, false, false, false, false, false, false, false, false, false, false, false, false, false, false, false] rfl rfl (by kernel_rfl) (fun _ _ _ h => h) (Or.inl ⟨by rfl, ?_⟩) ?_ ?_
  rotate_left
  · intro w'
    go_simp
    with_reducible rfl
  rotate_left
  · simp only [Act.put, List.setIfInBounds_toArray, List.set_cons_zero, List.set_cons_succ, i64_w, i32_w]
    rfl
  refine take_ (i := 15) (N := some 44) (v := ?_) (a' := ?_) #[true, true, true, true, true, true, true, true, true, true, true, true, true, true, true, true, false, false, false, false, false, false, false, false, false, false, false, false, false, false, false, false, false, false, false, false, false] rfl rfl (by kernel_rfl) (fun _ _ _ h => h) (Or.inl ⟨by rfl, ?_⟩) hHeld ?_ ?_
  rotate_left
  · rintro w' ⟨s0, s1, s2, s3, s4, s5, s6, s7, s8, s9, s10, s11, s12, s13, s14, s15, s16, s17, s18, s19, s20, s21, s22, s23, s24, s25, s26⟩
    go_simp
    with_reducible rfl
  rotate_left
  · simp only [Act.put, List.setIfInBounds_toArray, List.set_cons_zero, List.set_cons_succ, i64_w, i32_w]
    rfl
  refine one_ (i := 16) (N := some 45) #[true, true, true, true, true, true, true, true, true, true, true, true, true, true, true, true, true, false, false, false, false, false, false, false, false, false, false, false, false, false, false, false, false, false, false, false, false] rfl rfl (by kernel_rfl) (by decide) (fun K hK => ?_)
  refine value_ (w1 := ?_) (v := ?_) (by rfl) rfl ?_ ?_
  rotate_left 2
  · go_simp
    constructor
    · rfl
    · rfl
  have C45 := Aside0.mk (show Kd.C (Kd.int .i64) (wd.alloc (.cells #[.int .i64 5] 3)) (some ⟨wd.heap.size, 0, none⟩) 1 [5] from litI wd [5] wd.heap.size 1 rfl rfl (by decide))
  have hbz := below_alloc (Below.refl wd.heap.size wd) (.cells #[.int .i64 5] 3)
  replace x0 := (hbz.cell (World.block_lt_of_cell? _ _ x0)).trans x0
  replace x1 := (hbz.cell (World.block_lt_of_cell? _ _ x1)).trans x1
  replace x2 := (hbz.cell (World.block_lt_of_cell? _ _ x2)).trans x2
  replace x3 := (hbz.cell (World.block_lt_of_cell? _ _ x3)).trans x3
  replace x4 := (hbz.cell (World.block_lt_of_cell? _ _ x4)).trans x4
  replace x5 := (hbz.cell (World.block_lt_of_cell? _ _ x5)).trans x5
  replace x6 := (hbz.cell (World.block_lt_of_cell? _ _ x6)).trans x6
  replace x7 := (hbz.cell (World.block_lt_of_cell? _ _ x7)).trans x7
  replace x8 := (hbz.cell (World.block_lt_of_cell? _ _ x8)).trans x8
  replace x9 := (hbz.cell (World.block_lt_of_cell? _ _ x9)).trans x9
  replace x10 := (hbz.cell (World.block_lt_of_cell? _ _ x10)).trans x10
  replace x11 := (hbz.cell (World.block_lt_of_cell? _ _ x11)).trans x11
  replace x12 := (hbz.cell (World.block_lt_of_cell? _ _ x12)).trans x12
  replace u0 := (hbz.cell (World.block_lt_of_cell? _ _ u0)).trans u0
  replace y0 := (hbz.cell (World.block_lt_of_cell? _ _ y0)).trans y0
  replace y1 := (hbz.cell (World.block_lt_of_cell? _ _ y1)).trans y1
  replace y2 := (hbz.cell (World.block_lt_of_cell? _ _ y2)).trans y2
  replace y3 := (hbz.cell (World.block_lt_of_cell? _ _ y3)).trans y3
  replace y4 := (hbz.cell (World.block_lt_of_cell? _ _ y4)).trans y4
  replace y5 := (hbz.cell (World.block_lt_of_cell? _ _ y5)).trans y5
  replace y6 := (hbz.cell (World.block_lt_of_cell? _ _ y6)).trans y6
  replace y7 := (hbz.cell (World.block_lt_of_cell? _ _ y7)).trans y7
  replace y8 := (hbz.cell (World.block_lt_of_cell? _ _ y8)).trans y8
  replace y9 := (hbz.cell (World.block_lt_of_cell? _ _ y9)).trans y9
  replace y10 := (hbz.cell (World.block_lt_of_cell? _ _ y10)).trans y10
  replace y11 := (hbz.cell (World.block_lt_of_cell? _ _ y11)).trans y11
  replace y12 := (hbz.cell (World.block_lt_of_cell? _ _ y12)).trans y12
  replace RC := Aside0.mk (Kd.C_below RC.out hbz)
  have HBn := Aside0.mk (below_step (by repeat (first | (with_reducible first | exact HB.out | apply below_alloc | apply pw_below_drewN | apply below_drew1) | exact HB.out)) hbz)
  clear HB
  have HB := HBn
  clear HBn
  clear hbz
  obtain ⟨b45, hb45⟩ : ∃ b, wd.heap.size = b := ⟨_, rfl⟩
  rw [hb45] at C45 ⊢
  clear hb45
  generalize wd.alloc (.cells #[.int .i64 5] 3) = w1 at C45 RC HB x0 x1 x2 x3 x4 x5 x6 x7 x8 x9 x10 x11 x12 u0 y0 y1 y2 y3 y4 y5 y6 y7 y8 y9 y10 y11 y12 ⊢
  refine hK.out _ _ ⟨x0, x1, x2, x3, x4, x5, x6, x7, x8, x9, x10, x11, x12, u0, y0, y1, y2, y3, y4, y5, y6, y7, y8, y9, y10, y11, y12⟩ (fun hHeld => ?_)
  clear hK K
  refine norm_ (a' := ?_) ?_ ?_
  rotate_left
  · show Act.put _ (some 45) _ = _
    simp only [Act.put, List.setIfInBounds_toArray, List.set_cons_zero, List.set_cons_succ, i64_w, i32_w]
    rfl
  refine one_ (i := 17) (N := some 46) #[true, true, true, true, true, true, true, true, true, true, true, true, true, true, true, true, true, true, false, false, false, false, false, false, false, false, false, false, false, false, false, false, false, false, false, false, false] rfl rfl (by kernel_rfl) (by decide) (fun K hK => ?_)
  refine goes_ Try.func22 (by kernel_rfl) rfl #[.slice (some ⟨b45, 0, none⟩) 1 1] (by rfl) rfl rfl (by simp only [List.map_toArray, List.map_cons, List.map_nil]; rfl) ?_
  with_reducible refine (PC.out _ _ 1 C45.out (by decide)).mono ?_
  rintro e w2 ⟨rfl, hbz⟩
  refine ⟨_, rfl, ?_⟩
  clear C45
  replace x0 := (hbz.cell (World.block_lt_of_cell? _ _ x0)).trans x0
  replace x1 := (hbz.cell (World.block_lt_of_cell? _ _ x1)).trans x1
  replace x2 := (hbz.cell (World.block_lt_of_cell? _ _ x2)).trans x2
  replace x3 := (hbz.cell (World.block_lt_of_cell? _ _ x3)).trans x3
  replace x4 := (hbz.cell (World.block_lt_of_cell? _ _ x4)).trans x4
  replace x5 := (hbz.cell (World.block_lt_of_cell? _ _ x5)).trans x5
  replace x6 := (hbz.cell (World.block_lt_of_cell? _ _ x6)).trans x6
  replace x7 := (hbz.cell (World.block_lt_of_cell? _ _ x7)).trans x7
  replace x8 := (hbz.cell (World.block_lt_of_cell? _ _ x8)).trans x8
  replace x9 := (hbz.cell (World.block_lt_of_cell? _ _ x9)).trans x9
  replace x10 := (hbz.cell (World.block_lt_of_cell? _ _ x10)).trans x10
  replace x11 := (hbz.cell (World.block_lt_of_cell? _ _ x11)).trans x11
  replace x12 := (hbz.cell (World.block_lt_of_cell? _ _ x12)).trans x12
  replace u0 := (hbz.cell (World.block_lt_of_cell? _ _ u0)).trans u0
  replace y0 := (hbz.cell (World.block_lt_of_cell? _ _ y0)).trans y0
  replace y1 := (hbz.cell (World.block_lt_of_cell? _ _ y1)).trans y1
  replace y2 := (hbz.cell (World.block_lt_of_cell? _ _ y2)).trans y2
  replace y3 := (hbz.cell (World.block_lt_of_cell? _ _ y3)).trans y3
  replace y4 := (hbz.cell (World.block_lt_of_cell? _ _ y4)).trans y4
  replace y5 := (hbz.cell (World.block_lt_of_cell? _ _ y5)).trans y5
  replace y6 := (hbz.cell (World.block_lt_of_cell? _ _ y6)).trans y6
  replace y7 := (hbz.cell (World.block_lt_of_cell? _ _ y7)).trans y7
  replace y8 := (hbz.cell (World.block_lt_of_cell? _ _ y8)).trans y8
  replace y9 := (hbz.cell (World.block_lt_of_cell? _ _ y9)).trans y9
  replace y10 := (hbz.cell (World.block_lt_of_cell? _ _ y10)).trans y10
  replace y11 := (hbz.cell (World.block_lt_of_cell? _ _ y11)).trans y11
  replace y12 := (hbz.cell (World.block_lt_of_cell? _ _ y12)).trans y12
  replace RC := Aside0.mk (Kd.C_below RC.out hbz)
  have HBn := Aside0.mk (below_step (by repeat (first | (with_reducible first | exact HB.out | apply below_alloc | apply pw_below_drewN | apply below_drew1) | exact HB.out)) hbz)
  clear HB
  have HB := HBn
  clear HBn
  clear hbz
  refine hK.out _ _ ⟨x0, x1, x2, x3, x4, x5, x6, x7, x8, x9, x10, x11, x12, u0, y0, y1, y2, y3, y4, y5, y6, y7, y8, y9, y10, y11, y12⟩ (fun hHeld => ?_)
  clear hK K
  refine norm_ (a' := ?_) ?_ ?_
  rotate_left
  · show Act.put _ (some 46) _ = _
    simp only [Act.put, List.setIfInBounds_toArray, List.set_cons_zero, List.set_cons_succ, i64_w, i32_w]
    rfl
  refine pure_ (i := 18) (N := some 47) (v := ?_) (a' := ?_) #[true, true, true, true, true, true, true, true, true, true, true, true, true, true, true, true, true, true, true, false, false, false, false, false, false, false, false, false, false, false, false, false, false, false, false, false, false] rfl rfl (by kernel_rfl) (fun _ _ _ h => h) (Or.inl ⟨by rfl, ?_⟩) ?_ ?_
  rotate_left
  · intro w'
    go_simp
    with_reducible rfl
  rotate_left
  · simp only [Act.put, List.setIfInBounds_toArray, List.set_cons_zero, List.set_cons_succ, i64_w, i32_w]
    rfl
  refine pure_ (i := 19) (N := some 48) (v := ?_) (a' := ?_) #[true, true, true, true, true, true, true, true, true, true, true, true, true, true, true, true, true, true, true, true, false, false, false, false, false, false, false, false, false, false, false, false, false, false, false, false, false] rfl rfl (by kernel_rfl) (fun _ _ _ h => h) (Or.inl ⟨by rfl, ?_⟩) ?_ ?_
  rotate_left
  · intro w'
    go_simp
    with_reducible rfl
  rotate_left
  · simp only [Act.put, List.setIfInBounds_toArray, List.set_cons_zero, List.set_cons_succ, i64_w, i32_w]
    rfl
  refine pure_ (i := 20) (N := some 49) (v := ?_) (a' := ?_) #[true, true, true, true, true, true, true, true, true, true, true, true, true, true, true, true, true, true, true, true, true, false, false, false, false, false, false, false, false, false, false, false, false, false, false, false, false] rfl rfl (by kernel_rfl) (fun _ _ _ h => h) (Or.inl ⟨by rfl, ?_⟩) ?_ ?_
  rotate_left
  · intro w'
    go_simp
    with_reducible rfl
  rotate_left
  · simp only [Act.put, List.setIfInBounds_toArray, List.set_cons_zero, List.set_cons_succ, i64_w, i32_w]
    rfl
  refine pure_ (i := 21) (N := some 50) (v := ?_) (a' := ?_) #[true, true, true, true, true, true, true, true, true, true, true, true, true, true, true, true, true, true, true, true, true, true, false, false, false, false, false, false, false, false, false, false, false, false, false, false, false] rfl rfl (by kernel_rfl) (fun _ _ _ h => h) (Or.inl ⟨by rfl, ?_⟩) ?_ ?_
  rotate_left
  · intro w'
    go_simp
    with_reducible rfl
  rotate_left
  · simp only [Act.put, List.setIfInBounds_toArray, List.set_cons_zero, List.set_cons_succ, i64_w, i32_w]
    rfl
  refine pure_ (i := 22) (N := some 51) (v := ?_) (a' := ?_) #[true, true, true, true, true, true, true, true, true, true, true, true, true, true, true, true, true, true, true, true, true, true, true, false, false, false, false, false, false, false, false, false, false, false, false, false, false] rfl rfl (by kernel_rfl) (fun _ _ _ h => h) (Or.inl ⟨by rfl, ?_⟩) ?_ ?_
  rotate_left
  · intro w'
    go_simp
    with_reducible rfl
  rotate_left
  · simp only [Act.put, List.setIfInBounds_toArray, List.set_cons_zero, List.set_cons_succ, i64_w, i32_w]
    rfl
  refine pure_ (i := 23) (N := some 52) (v := ?_) (a' := ?_) #[true, true, true, true, true, true, true, true, true, true, true, true, true, true, true, true, true, true, true, true, true, true, true, true, false, false, false, false, false, false, false, false, false, false, false, false, false] rfl rfl (by kernel_rfl) (fun _ _ _ h => h) (Or.inl ⟨by rfl, ?_⟩) ?_ ?_
  rotate_left
  · intro w'
    go_simp
    with_reducible rfl
  rotate_left
  · simp only [Act.put, List.setIfInBounds_toArray, List.set_cons_zero, List.set_cons_succ, i64_w, i32_w]
    rfl
  refine one_ (i := 24) (N := some 53) #[true, true, true, true, true, true, true, true, true, true, true, true, true, true, true, true, true, true, true, true, true, true, true, true, true, false, false, false, false, false, false, false, false, false, false, false, false] rfl rfl (by kernel_rfl) (by decide) (fun K hK => ?_)
  refine value_ (w1 := ?_) (v := ?_) (by rfl) rfl ?_ ?_
  rotate_left 2
  · go_simp
    constructor
    · rfl
    · rfl
  have C53 := Aside0.mk (show Kd.C k49 (w2.alloc (.cells #[.int .i64 13, .int .u16 3000, .int .i64 15, .int .u16 12388] 49)) (some ⟨w2.heap.size, 0, none⟩) 2 [⟨13, 3000⟩, ⟨15, 12388⟩] from litC w2 [⟨13, 3000⟩, ⟨15, 12388⟩] w2.heap.size 2 rfl rfl (by decide))
  have hbz := below_alloc (Below.refl w2.heap.size w2) (.cells #[.int .i64 13, .int .u16 3000, .int .i64 15, .int .u16 12388] 49)
  replace x0 := (hbz.cell (World.block_lt_of_cell? _ _ x0)).trans x0
  replace x1 := (hbz.cell (World.block_lt_of_cell? _ _ x1)).trans x1
  replace x2 := (hbz.cell (World.block_lt_of_cell? _ _ x2)).trans x2
  replace x3 := (hbz.cell (World.block_lt_of_cell? _ _ x3)).trans x3
  replace x4 := (hbz.cell (World.block_lt_of_cell? _ _ x4)).trans x4
  replace x5 := (hbz.cell (World.block_lt_of_cell? _ _ x5)).trans x5
  replace x6 := (hbz.cell (World.block_lt_of_cell? _ _ x6)).trans x6
  replace x7 := (hbz.cell (World.block_lt_of_cell? _ _ x7)).trans x7
  replace x8 := (hbz.cell (World.block_lt_of_cell? _ _ x8)).trans x8
  replace x9 := (hbz.cell (World.block_lt_of_cell? _ _ x9)).trans x9
  replace x10 := (hbz.cell (World.block_lt_of_cell? _ _ x10)).trans x10
  replace x11 := (hbz.cell (World.block_lt_of_cell? _ _ x11)).trans x11
  replace x12 := (hbz.cell (World.block_lt_of_cell? _ _ x12)).trans x12
  replace u0 := (hbz.cell (World.block_lt_of_cell? _ _ u0)).trans u0
  replace y0 := (hbz.cell (World.block_lt_of_cell? _ _ y0)).trans y0
  replace y1 := (hbz.cell (World.block_lt_of_cell? _ _ y1)).trans y1
  replace y2 := (hbz.cell (World.block_lt_of_cell? _ _ y2)).trans y2
  replace y3 := (hbz.cell (World.block_lt_of_cell? _ _ y3)).trans y3
  replace y4 := (hbz.cell (World.block_lt_of_cell? _ _ y4)).trans y4
  replace y5 := (hbz.cell (World.block_lt_of_cell? _ _ y5)).trans y5
  replace y6 := (hbz.cell (World.block_lt_of_cell? _ _ y6)).trans y6
  replace y7 := (hbz.cell (World.block_lt_of_cell? _ _ y7)).trans y7
  replace y8 := (hbz.cell (World.block_lt_of_cell? _ _ y8)).trans y8
  replace y9 := (hbz.cell (World.block_lt_of_cell? _ _ y9)).trans y9
  replace y10 := (hbz.cell (World.block_lt_of_cell? _ _ y10)).trans y10
  replace y11 := (hbz.cell (World.block_lt_of_cell? _ _ y11)).trans y11
  replace y12 := (hbz.cell (World.block_lt_of_cell? _ _ y12)).trans y12
  replace RC := Aside0.mk (Kd.C_below RC.out hbz)
  have HBn := Aside0.mk (below_step (by repeat (first | (with_reducible first | exact HB.out | apply below_alloc | apply pw_below_drewN | apply below_drew1) | exact HB.out)) hbz)
  clear HB
  have HB := HBn
  clear HBn
  clear hbz
  obtain ⟨b53, hb53⟩ : ∃ b, w2.heap.size = b := ⟨_, rfl⟩
  rw [hb53] at C53 ⊢
  clear hb53
  generalize w2.alloc (.cells #[.int .i64 13, .int .u16 3000, .int .i64 15, .int .u16 12388] 49) = w3 at C53 RC HB x0 x1 x2 x3 x4 x5 x6 x7 x8 x9 x10 x11 x12 u0 y0 y1 y2 y3 y4 y5 y6 y7 y8 y9 y10 y11 y12 ⊢
  refine hK.out _ _ ⟨x0, x1, x2, x3, x4, x5, x6, x7, x8, x9, x10, x11, x12, u0, y0, y1, y2, y3, y4, y5, y6, y7, y8, y9, y10, y11, y12⟩ (fun hHeld => ?_)
  clear hK K
  refine norm_ (a' := ?_) ?_ ?_
  rotate_left
  · show Act.put _ (some 53) _ = _
    simp only [Act.put, List.setIfInBounds_toArray, List.set_cons_zero, List.set_cons_succ, i64_w, i32_w]
    rfl
  refine one_ (i := 25) (N := some 54) #[true, true, true, true, true, true, true, true, true, true, true, true, true, true, true, true, true, true, true, true, true, true, true, true, true, true, false, false, false, false, false, false, false, false, false, false, false] rfl rfl (by kernel_rfl) (by decide) (fun K hK => ?_)
  refine goes_ Try.func23 (by kernel_rfl) rfl #[.slice A 2 c, .slice (some ⟨b53, 0, none⟩) 2 2] (by rfl) rfl rfl (by simp only [List.map_toArray, List.map_cons, List.map_nil]; rfl) ?_
  with_reducible refine (CE.out _ _ _ _ _ RC.out hc C53.out (by decide)).mono ?_
  rintro e w4 ⟨rfl, ⟨nd, hd⟩⟩
  refine ⟨_, rfl, ?_⟩
  have hbz := drawn_below hd
  clear C53 hd
  replace x0 := (hbz.cell (World.block_lt_of_cell? _ _ x0)).trans x0
  replace x1 := (hbz.cell (World.block_lt_of_cell? _ _ x1)).trans x1
  replace x2 := (hbz.cell (World.block_lt_of_cell? _ _ x2)).trans x2
  replace x3 := (hbz.cell (World.block_lt_of_cell? _ _ x3)).trans x3
  replace x4 := (hbz.cell (World.block_lt_of_cell? _ _ x4)).trans x4
  replace x5 := (hbz.cell (World.block_lt_of_cell? _ _ x5)).trans x5
  replace x6 := (hbz.cell (World.block_lt_of_cell? _ _ x6)).trans x6
  replace x7 := (hbz.cell (World.block_lt_of_cell? _ _ x7)).trans x7
  replace x8 := (hbz.cell (World.block_lt_of_cell? _ _ x8)).trans x8
  replace x9 := (hbz.cell (World.block_lt_of_cell? _ _ x9)).trans x9
  replace x10 := (hbz.cell (World.block_lt_of_cell? _ _ x10)).trans x10
  replace x11 := (hbz.cell (World.block_lt_of_cell? _ _ x11)).trans x11
  replace x12 := (hbz.cell (World.block_lt_of_cell? _ _ x12)).trans x12
  replace u0 := (hbz.cell (World.block_lt_of_cell? _ _ u0)).trans u0
  replace y0 := (hbz.cell (World.block_lt_of_cell? _ _ y0)).trans y0
  replace y1 := (hbz.cell (World.block_lt_of_cell? _ _ y1)).trans y1
  replace y2 := (hbz.cell (World.block_lt_of_cell? _ _ y2)).trans y2
  replace y3 := (hbz.cell (World.block_lt_of_cell? _ _ y3)).trans y3
  replace y4 := (hbz.cell (World.block_lt_of_cell? _ _ y4)).trans y4
  replace y5 := (hbz.cell (World.block_lt_of_cell? _ _ y5)).trans y5
  replace y6 := (hbz.cell (World.block_lt_of_cell? _ _ y6)).trans y6
  replace y7 := (hbz.cell (World.block_lt_of_cell? _ _ y7)).trans y7
  replace y8 := (hbz.cell (World.block_lt_of_cell? _ _ y8)).trans y8
  replace y9 := (hbz.cell (World.block_lt_of_cell? _ _ y9)).trans y9
  replace y10 := (hbz.cell (World.block_lt_of_cell? _ _ y10)).trans y10
  replace y11 := (hbz.cell (World.block_lt_of_cell? _ _ y11)).trans y11
  replace y12 := (hbz.cell (World.block_lt_of_cell? _ _ y12)).trans y12
  replace RC := Aside0.mk (Kd.C_below RC.out hbz)
  have HBn := Aside0.mk (below_step (by repeat (first | (with_reducible first | exact HB.out | apply below_alloc | apply pw_below_drewN | apply below_drew1) | exact HB.out)) hbz)
  clear HB
  have HB := HBn
  clear HBn
  clear hbz
  refine hK.out _ _ ⟨x0, x1, x2, x3, x4, x5, x6, x7, x8, x9, x10, x11, x12, u0, y0, y1, y2, y3, y4, y5, y6, y7, y8, y9, y10, y11, y12⟩ (fun hHeld => ?_)
  clear hK K
  refine norm_ (a' := ?_) ?_ ?_
  rotate_left
  · show Act.put _ (some 54) _ = _
    simp only [Act.put, List.setIfInBounds_toArray, List.set_cons_zero, List.set_cons_succ, i64_w, i32_w]
    rfl
  refine pure_ (i := 26) (N := some 55) (v := ?_) (a' := ?_) #[true, true, true, true, true, true, true, true, true, true, true, true, true, true, true, true, true, true, true, true, true, true, true, true, true, true, true, false, false, false, false, false, false, false, false, false, false] rfl rfl (by kernel_rfl) (fun _ _ _ h => h) (Or.inl ⟨by rfl, ?_⟩) ?_ ?_
  rotate_left
  · intro w'
    go_simp
    with_reducible rfl
  rotate_left
  · simp only [Act.put, List.setIfInBounds_toArray, List.set_cons_zero, List.set_cons_succ, i64_w, i32_w]
    rfl
  refine pure_ (i := 27) (N := some 56) (v := ?_) (a' := ?_) #[true, true, true, true, true, true, true, true, true, true, true, true, true, true, true, true, true, true, true, true, true, true, true, true, true, true, true, true, false, false, false, false, false, false, false, false, false] rfl rfl (by kernel_rfl) (fun _ _ _ h => h) (Or.inl ⟨by rfl, ?_⟩) ?_ ?_
  rotate_left
  · intro w'
    go_simp
    with_reducible rfl
  rotate_left
  · simp only [Act.put, List.setIfInBounds_toArray, List.set_cons_zero, List.set_cons_succ, i64_w, i32_w]
    rfl
  refine pure_ (i := 28) (N := some 57) (v := ?_) (a' := ?_) #[true, true, true, true, true, true, true, true, true, true, true, true, true, true, true, true, true, true, true, true, true, true, true, true, true, true, true, true, true, false, false, false, false, false, false, false, false] rfl rfl (by kernel_rfl) (fun _ _ _ h => h) (Or.inl ⟨by rfl, ?_⟩) ?_ ?_
  rotate_left
  · intro w'
    go_simp
    with_reducible rfl
  rotate_left
  · simp only [Act.put, List.setIfInBounds_toArray, List.set_cons_zero, List.set_cons_succ, i64_w, i32_w]
    rfl
  refine pure_ (i := 29) (N := some 58) (v := ?_) (a' := ?_) #[true, true, true, true, true, true, true, true, true, true, true, true, true, true, true, true, true, true, true, true, true, true, true, true, true, true, true, true, true, true, false, false, false, false, false, false, false] rfl rfl (by kernel_rfl) (fun _ _ _ h => h) (Or.inl ⟨by rfl, ?_⟩) ?_ ?_
  rotate_left
  · intro w'
    go_simp
    with_reducible rfl
  rotate_left
  · simp only [Act.put, List.setIfInBounds_toArray, List.set_cons_zero, List.set_cons_succ, i64_w, i32_w]
    rfl
  refine pure_ (i := 30) (N := some 59) (v := ?_) (a' := ?_) #[true, true, true, true, true, true, true, true, true, true, true, true, true, true, true, true, true, true, true, true, true, true, true, true, true, true, true, true, true, true, true, false, false, false, false, false, false] rfl rfl (by kernel_rfl) (fun _ _ _ h => h) (Or.inl ⟨by rfl, ?_⟩) ?_ ?_
  rotate_left
  · intro w'
    go_simp
    with_reducible rfl
  rotate_left
  · simp only [Act.put, List.setIfInBounds_toArray, List.set_cons_zero, List.set_cons_succ, i64_w, i32_w]
    rfl
  refine pure_ (i := 31) (N := some 60) (v := ?_) (a' := ?_) #[true, true, true, true, true, true, true, true, true, true, true, true, true, true, true, true, true, true, true, true, true, true, true, true, true, true, true, true, true, true, true, true, false, false, false, false, false] rfl rfl (by kernel_rfl) (fun _ _ _ h => h) (Or.inl ⟨by rfl, ?_⟩) ?_ ?_
  rotate_left
  · intro w'
    go_simp
    with_reducible rfl
  rotate_left
  · simp only [Act.put, List.setIfInBounds_toArray, List.set_cons_zero, List.set_cons_succ, i64_w, i32_w]
    rfl
  refine pure_ (i := 33) (N := some 62) (v := ?_) (a' := ?_) #[true, true, true, true, true, true, true, true, true, true, true, true, true, true, true, true, true, true, true, true, true, true, true, true, true, true, true, true, true, true, true, true, false, true, false, false, false] rfl rfl (by kernel_rfl) (fun _ _ _ h => h) (Or.inl ⟨by rfl, ?_⟩) ?_ ?_
  rotate_left
  · intro w'
    go_simp
    with_reducible rfl
  rotate_left
  · simp only [Act.put, List.setIfInBounds_toArray, List.set_cons_zero, List.set_cons_succ, i64_w, i32_w]
    rfl
  refine take_ (i := 32) (N := some 61) (v := ?_) (a' := ?_) #[true, true, true, true, true, true, true, true, true, true, true, true, true, true, true, true, true, true, true, true, true, true, true, true, true, true, true, true, true, true, true, true, true, true, false, false, false] rfl rfl (by kernel_rfl) (fun _ _ _ h => h) (Or.inl ⟨by rfl, ?_⟩) hHeld ?_ ?_
  rotate_left
  · rintro w' ⟨s0, s1, s2, s3, s4, s5, s6, s7, s8, s9, s10, s11, s12, s13, s14, s15, s16, s17, s18, s19, s20, s21, s22, s23, s24, s25, s26⟩
    go_simp
    with_reducible rfl
  rotate_left
  · simp only [Act.put, List.setIfInBounds_toArray, List.set_cons_zero, List.set_cons_succ, i64_w, i32_w]
    rfl
  refine pure_ (i := 34) (N := some 63) (v := ?_) (a' := ?_) #[true, true, true, true, true, true, true, true, true, true, true, true, true, true, true, true, true, true, true, true, true, true, true, true, true, true, true, true, true, true, true, true, true, true, true, false, false] rfl rfl (by kernel_rfl) (fun _ _ _ h => h) (Or.inl ⟨by rfl, ?_⟩) ?_ ?_
  rotate_left
  · intro w'
    go_simp
    with_reducible rfl
  rotate_left
  · simp only [Act.put, List.setIfInBounds_toArray, List.set_cons_zero, List.set_cons_succ, i64_w, i32_w]
    rfl
  refine pure_ (i := 35) (N := some 64) (v := ?_) (a' := ?_) #[true, true, true, true, true, true, true, true, true, true, true, true, true, true, true, true, true, true, true, true, true, true, true, true, true, true, true, true, true, true, true, true, true, true, true, true, false] rfl rfl (by kernel_rfl) (fun _ _ _ h => h) (Or.inl ⟨by rfl, ?_⟩) ?_ ?_
  rotate_left
  · intro w'
    go_simp
    with_reducible rfl
  rotate_left
  · simp only [Act.put, List.setIfInBounds_toArray, List.set_cons_zero, List.set_cons_succ, i64_w, i32_w]
    rfl
  refine pure_ (i := 36) (N := some 0) (v := ?_) (a' := ?_) #[true, true, true, true, true, true, true, true, true, true, true, true, true, true, true, true, true, true, true, true, true, true, true, true, true, true, true, true, true, true, true, true, true, true, true, true, true] rfl rfl (by kernel_rfl) (fun _ _ _ h => h) (Or.inl ⟨by rfl, ?_⟩) ?_ ?_
  rotate_left
  · intro w'
    go_simp
    with_reducible rfl
  rotate_left
  · simp only [Act.put, List.setIfInBounds_toArray, List.set_cons_zero, List.set_cons_succ, i64_w, i32_w]
    rfl
  refine done_ (by kernel_rfl) ?_

  go_wp2
  go_ret
  exact ⟨rfl, by repeat (first | (with_reducible first | exact HB.out | apply below_alloc | apply pw_below_drewN | apply below_drew1) | exact HB.out)⟩
end Go.Proofs.Ytejnppbkncfkeaa.Rup
