/- Chapter 5: a part of its proof (cut by program out of Rup5, Rup6); no condition. -/
import Derived.Shelf.Abstract
import Derived.Shelf.RegionOpen
import Derived.Test.YthfobpkdloejfaaGreatIr11
import Derived.Test.YthfobpkdloejfaaGreatIr18
import Derived.Test.YthfobpkdloejfaaGreatIr21
import Derived.Test.YthfobpkdloejfaaGreatIr38
import Derived.Test.YthfobpkdloejfaaGreatIr42
set_option linter.unusedVariables false
set_option linter.unusedSimpArgs false
set_option linter.unusedSectionVars false
set_option maxRecDepth 100000
set_option maxHeartbeats 8000000
section
namespace Go.Proofs.YthfobpkdloejfaaGreat.Rup
open Go.RowKit Go.Proofs.YthfobpkdloejfaaGreat.PAll Go.Proofs.YthfobpkdloejfaaGreatW.PrintWords Go.Proofs.YthfobpkdloejfaaGreatW.PrintLast Go.Proofs.YthfobpkdloejfaaGreatW.PrintMore Go.Proofs.YthfobpkdloejfaaGreat.Plain
theorem enter_k0 (a l q z eb fb su : Int) (ext : Bool) (idx : Int) (held : Bool) (b : Int) (inh srv : Bool) (s : Int) (w : World) : (World.heap (((((w).alloc (.cells #[.int .u16 a, .int .u16 l, .int .u16 q, .int .i64 z, .int .i64 eb, .int .i64 fb, .int .i64 su, .bool ext, .int .u16 idx, .bool held, .int .u16 b, .bool inh, .bool srv] 26)).alloc (.cells #[.int .u16 s] 78)).alloc (.cells #[.int .u16 0, .int .u16 0, .int .u16 0, .int .i64 0, .int .i64 0, .int .i64 0, .int .i64 0, .bool false, .int .u16 0, .bool false, .int .u16 0, .bool false, .bool false] 26)).alloc (.cells #[.int .u16 0] 78)))[w.heap.size]? = some (.cells #[.int .u16 a, .int .u16 l, .int .u16 q, .int .i64 z, .int .i64 eb, .int .i64 fb, .int .i64 su, .bool ext, .int .u16 idx, .bool held, .int .u16 b, .bool inh, .bool srv] 26 (0, 0)) := by
 have h := blk_alloc (blk_alloc (blk_alloc (blk_new (w) (.cells #[.int .u16 a, .int .u16 l, .int .u16 q, .int .i64 z, .int .i64 eb, .int .i64 fb, .int .i64 su, .bool ext, .int .u16 idx, .bool held, .int .u16 b, .bool inh, .bool srv] 26)) (.cells #[.int .u16 s] 78)) (.cells #[.int .u16 0, .int .u16 0, .int .u16 0, .int .i64 0, .int .i64 0, .int .i64 0, .int .i64 0, .bool false, .int .u16 0, .bool false, .int .u16 0, .bool false, .bool false] 26)) (.cells #[.int .u16 0] 78)
 exact h
theorem enter_k1 (a l q z eb fb su : Int) (ext : Bool) (idx : Int) (held : Bool) (b : Int) (inh srv : Bool) (s : Int) (w : World) : (World.heap (((((w).alloc (.cells #[.int .u16 a, .int .u16 l, .int .u16 q, .int .i64 z, .int .i64 eb, .int .i64 fb, .int .i64 su, .bool ext, .int .u16 idx, .bool held, .int .u16 b, .bool inh, .bool srv] 26)).alloc (.cells #[.int .u16 s] 78)).alloc (.cells #[.int .u16 0, .int .u16 0, .int .u16 0, .int .i64 0, .int .i64 0, .int .i64 0, .int .i64 0, .bool false, .int .u16 0, .bool false, .int .u16 0, .bool false, .bool false] 26)).alloc (.cells #[.int .u16 0] 78)))[w.heap.size + 1]? = some (.cells #[.int .u16 s] 78 (0, 0)) := by
 have h := blk_alloc (blk_alloc (blk_new ((w).alloc (.cells #[.int .u16 a, .int .u16 l, .int .u16 q, .int .i64 z, .int .i64 eb, .int .i64 fb, .int .i64 su, .bool ext, .int .u16 idx, .bool held, .int .u16 b, .bool inh, .bool srv] 26)) (.cells #[.int .u16 s] 78)) (.cells #[.int .u16 0, .int .u16 0, .int .u16 0, .int .i64 0, .int .i64 0, .int .i64 0, .int .i64 0, .bool false, .int .u16 0, .bool false, .int .u16 0, .bool false, .bool false] 26)) (.cells #[.int .u16 0] 78)
 rw [World.size_alloc] at h
 exact h
theorem enter_k2 (a l q z eb fb su : Int) (ext : Bool) (idx : Int) (held : Bool) (b : Int) (inh srv : Bool) (s : Int) (w : World) : (World.heap (((((w).alloc (.cells #[.int .u16 a, .int .u16 l, .int .u16 q, .int .i64 z, .int .i64 eb, .int .i64 fb, .int .i64 su, .bool ext, .int .u16 idx, .bool held, .int .u16 b, .bool inh, .bool srv] 26)).alloc (.cells #[.int .u16 s] 78)).alloc (.cells #[.int .u16 0, .int .u16 0, .int .u16 0, .int .i64 0, .int .i64 0, .int .i64 0, .int .i64 0, .bool false, .int .u16 0, .bool false, .int .u16 0, .bool false, .bool false] 26)).alloc (.cells #[.int .u16 0] 78)))[w.heap.size + 1 + 1]? = some (.cells #[.int .u16 0, .int .u16 0, .int .u16 0, .int .i64 0, .int .i64 0, .int .i64 0, .int .i64 0, .bool false, .int .u16 0, .bool false, .int .u16 0, .bool false, .bool false] 26 (0, 0)) := by
 have h := blk_alloc (blk_new (((w).alloc (.cells #[.int .u16 a, .int .u16 l, .int .u16 q, .int .i64 z, .int .i64 eb, .int .i64 fb, .int .i64 su, .bool ext, .int .u16 idx, .bool held, .int .u16 b, .bool inh, .bool srv] 26)).alloc (.cells #[.int .u16 s] 78)) (.cells #[.int .u16 0, .int .u16 0, .int .u16 0, .int .i64 0, .int .i64 0, .int .i64 0, .int .i64 0, .bool false, .int .u16 0, .bool false, .int .u16 0, .bool false, .bool false] 26)) (.cells #[.int .u16 0] 78)
 rw [World.size_alloc, World.size_alloc] at h
 exact h
theorem enter_k3 (a l q z eb fb su : Int) (ext : Bool) (idx : Int) (held : Bool) (b : Int) (inh srv : Bool) (s : Int) (w : World) : (World.heap (((((w).alloc (.cells #[.int .u16 a, .int .u16 l, .int .u16 q, .int .i64 z, .int .i64 eb, .int .i64 fb, .int .i64 su, .bool ext, .int .u16 idx, .bool held, .int .u16 b, .bool inh, .bool srv] 26)).alloc (.cells #[.int .u16 s] 78)).alloc (.cells #[.int .u16 0, .int .u16 0, .int .u16 0, .int .i64 0, .int .i64 0, .int .i64 0, .int .i64 0, .bool false, .int .u16 0, .bool false, .int .u16 0, .bool false, .bool false] 26)).alloc (.cells #[.int .u16 0] 78)))[w.heap.size + 1 + 1 + 1]? = some (.cells #[.int .u16 0] 78 (0, 0)) := by
 have h := blk_new ((((w).alloc (.cells #[.int .u16 a, .int .u16 l, .int .u16 q, .int .i64 z, .int .i64 eb, .int .i64 fb, .int .i64 su, .bool ext, .int .u16 idx, .bool held, .int .u16 b, .bool inh, .bool srv] 26)).alloc (.cells #[.int .u16 s] 78)).alloc (.cells #[.int .u16 0, .int .u16 0, .int .u16 0, .int .i64 0, .int .i64 0, .int .i64 0, .int .i64 0, .bool false, .int .u16 0, .bool false, .int .u16 0, .bool false, .bool false] 26)) (.cells #[.int .u16 0] 78)
 rw [World.size_alloc, World.size_alloc, World.size_alloc] at h
 exact h
theorem enter_kB (a l q z eb fb su : Int) (ext : Bool) (idx : Int) (held : Bool) (b : Int) (inh srv : Bool) (s : Int) (w : World) : Below w.heap.size w (((((w).alloc (.cells #[.int .u16 a, .int .u16 l, .int .u16 q, .int .i64 z, .int .i64 eb, .int .i64 fb, .int .i64 su, .bool ext, .int .u16 idx, .bool held, .int .u16 b, .bool inh, .bool srv] 26)).alloc (.cells #[.int .u16 s] 78)).alloc (.cells #[.int .u16 0, .int .u16 0, .int .u16 0, .int .i64 0, .int .i64 0, .int .i64 0, .int .i64 0, .bool false, .int .u16 0, .bool false, .int .u16 0, .bool false, .bool false] 26)).alloc (.cells #[.int .u16 0] 78)) := ((((Below.refl _ w).alloc (Nat.le_refl _) _).alloc (by simp <;> omega) _).alloc (by simp <;> omega) _).alloc (by simp <;> omega) _
theorem shl_two {n : Int} (h1 : 1 ≤ n) (h2 : n ≤ 10) : shl .u16 1 n = IntKind.u16.wrap (2 ^ n.toNat) := by
 rcases ten h1 h2 with rfl | rfl | rfl | rfl | rfl | rfl | rfl | rfl | rfl | rfl <;> decide
theorem Enter_c1 (a l q z eb fb su : Int) (ext : Bool) (idx : Int) (held : Bool) (b : Int) (inh srv : Bool) (s nx : Int) (s0 : 0 ≤ s) (s1 : s < 65536) (hm : mayB l q z eb fb su idx b = false) (w : World) :
 Calls Tryz.prog 37 #[.agg #[.int .u16 a, .int .u16 l, .int .u16 q, .int .i64 z, .int .i64 eb, .int .i64 fb, .int .i64 su, .bool ext, .int .u16 idx, .bool held, .int .u16 b, .bool inh, .bool srv], .agg #[.int .u16 s], .int .u16 nx] w fun e w' => e = .returned (.tuple #[.agg #[.int .u16 0, .int .u16 0, .int .u16 0, .int .i64 0, .int .i64 0, .int .i64 0, .int .i64 0, .bool false, .int .u16 0, .bool false, .int .u16 0, .bool false, .bool false], .agg #[.int .u16 0], .slice none 0 0, .int .i64 0, .int .i64 2]) ∧ Below w.heap.size w w' := by
 have MC := Lib.hid (fun w => May_c a l q z eb fb su ext idx held b inh srv w)
 rw [hm] at MC
 clear hm
 go_enter Tryz.func37, Tryz.ntmps37
 go_upto_region 2 with (first | (go_at_call 13; (with_reducible refine at_args #[.agg #[.int .u16 a, .int .u16 l, .int .u16 q, .int .i64 z, .int .i64 eb, .int .i64 fb, .int .i64 su, .bool ext, .int .u16 idx, .bool held, .int .u16 b, .bool inh, .bool srv]] ?_); refine (MC.out _).mono ?_; rintro e wa ⟨rfl, hb⟩; have n0 := Aside0.mk (blk_below (enter_k0 a l q z eb fb su ext idx held b inh srv s w) hb); have n1 := Aside0.mk (blk_below (enter_k1 a l q z eb fb su ext idx held b inh srv s w) hb); have n2 := Aside0.mk (blk_below (enter_k2 a l q z eb fb su ext idx held b inh srv s w) hb); have n3 := Aside0.mk (blk_below (enter_k3 a l q z eb fb su ext idx held b inh srv s w) hb); have nB := Aside0.mk (below_step (enter_kB a l q z eb fb su ext idx held b inh srv s w) hb); have K0 : Aside0 (wa.heap[w.heap.size]? = some (.cells #[.int .u16 a, .int .u16 l, .int .u16 q, .int .i64 z, .int .i64 eb, .int .i64 fb, .int .i64 su, .bool ext, .int .u16 idx, .bool held, .int .u16 b, .bool inh, .bool srv] 26 (0, 0))) := n0; have K1 : Aside0 (wa.heap[w.heap.size + 1]? = some (.cells #[.int .u16 s] 78 (0, 0))) := n1; have K2 : Aside0 (wa.heap[w.heap.size + 1 + 1]? = some (.cells #[.int .u16 0, .int .u16 0, .int .u16 0, .int .i64 0, .int .i64 0, .int .i64 0, .int .i64 0, .bool false, .int .u16 0, .bool false, .int .u16 0, .bool false, .bool false] 26 (0, 0))) := n2; have K3 : Aside0 (wa.heap[w.heap.size + 1 + 1 + 1]? = some (.cells #[.int .u16 0] 78 (0, 0))) := n3; have HB : Aside0 (Below w.heap.size w wa) := nB; clear n0 n1 n2 n3 nB hb; have g0 := blk_frozen K0.out; have x0 : wa.cell? ⟨w.heap.size, 0, none⟩ = some (.int .u16 a) := (blk_cell K0.out 0).trans rfl; have x1 : wa.cell? ⟨w.heap.size, 1, none⟩ = some (.int .u16 l) := (blk_cell K0.out 1).trans rfl; have x2 : wa.cell? ⟨w.heap.size, 2, none⟩ = some (.int .u16 q) := (blk_cell K0.out 2).trans rfl; have x3 : wa.cell? ⟨w.heap.size, 3, none⟩ = some (.int .i64 z) := (blk_cell K0.out 3).trans rfl; have x4 : wa.cell? ⟨w.heap.size, 4, none⟩ = some (.int .i64 eb) := (blk_cell K0.out 4).trans rfl; have x5 : wa.cell? ⟨w.heap.size, 5, none⟩ = some (.int .i64 fb) := (blk_cell K0.out 5).trans rfl; have x6 : wa.cell? ⟨w.heap.size, 6, none⟩ = some (.int .i64 su) := (blk_cell K0.out 6).trans rfl; have x7 : wa.cell? ⟨w.heap.size, 7, none⟩ = some (.bool ext) := (blk_cell K0.out 7).trans rfl; have x8 : wa.cell? ⟨w.heap.size, 8, none⟩ = some (.int .u16 idx) := (blk_cell K0.out 8).trans rfl; have x9 : wa.cell? ⟨w.heap.size, 9, none⟩ = some (.bool held) := (blk_cell K0.out 9).trans rfl; have x10 : wa.cell? ⟨w.heap.size, 10, none⟩ = some (.int .u16 b) := (blk_cell K0.out 10).trans rfl; have x11 : wa.cell? ⟨w.heap.size, 11, none⟩ = some (.bool inh) := (blk_cell K0.out 11).trans rfl; have x12 : wa.cell? ⟨w.heap.size, 12, none⟩ = some (.bool srv) := (blk_cell K0.out 12).trans rfl; have u0 : wa.cell? ⟨w.heap.size + 1, 0, none⟩ = some (.int .u16 s) := (blk_cell K1.out 0).trans rfl))
 have g2 := blk_frozen K2.out
 have g3 := blk_frozen K3.out
 have y0 : wa.cell? ⟨w.heap.size + 1 + 1, 0, none⟩ = some (.int .u16 0) := (blk_cell K2.out 0).trans rfl; have y1 : wa.cell? ⟨w.heap.size + 1 + 1, 1, none⟩ = some (.int .u16 0) := (blk_cell K2.out 1).trans rfl; have y2 : wa.cell? ⟨w.heap.size + 1 + 1, 2, none⟩ = some (.int .u16 0) := (blk_cell K2.out 2).trans rfl; have y3 : wa.cell? ⟨w.heap.size + 1 + 1, 3, none⟩ = some (.int .i64 0) := (blk_cell K2.out 3).trans rfl; have y4 : wa.cell? ⟨w.heap.size + 1 + 1, 4, none⟩ = some (.int .i64 0) := (blk_cell K2.out 4).trans rfl; have y5 : wa.cell? ⟨w.heap.size + 1 + 1, 5, none⟩ = some (.int .i64 0) := (blk_cell K2.out 5).trans rfl; have y6 : wa.cell? ⟨w.heap.size + 1 + 1, 6, none⟩ = some (.int .i64 0) := (blk_cell K2.out 6).trans rfl; have y7 : wa.cell? ⟨w.heap.size + 1 + 1, 7, none⟩ = some (.bool false) := (blk_cell K2.out 7).trans rfl; have y8 : wa.cell? ⟨w.heap.size + 1 + 1, 8, none⟩ = some (.int .u16 0) := (blk_cell K2.out 8).trans rfl; have y9 : wa.cell? ⟨w.heap.size + 1 + 1, 9, none⟩ = some (.bool false) := (blk_cell K2.out 9).trans rfl; have y10 : wa.cell? ⟨w.heap.size + 1 + 1, 10, none⟩ = some (.int .u16 0) := (blk_cell K2.out 10).trans rfl; have y11 : wa.cell? ⟨w.heap.size + 1 + 1, 11, none⟩ = some (.bool false) := (blk_cell K2.out 11).trans rfl; have y12 : wa.cell? ⟨w.heap.size + 1 + 1, 12, none⟩ = some (.bool false) := (blk_cell K2.out 12).trans rfl
 have z0 : wa.cell? ⟨w.heap.size + 1 + 1 + 1, 0, none⟩ = some (.int .u16 0) := (blk_cell K3.out 0).trans rfl
 go_wp2
 have ne3 : w.heap.size + 1 + 1 + 1 ≠ w.heap.size + 1 + 1 := by omega
 refine bodyPost_ret (results_list (rs := [.cell 6 26, .cell 7 78, .tmp 8, .tmp 9, .tmp 10]) rfl (by simp) (.cell (w.heap.size + 1 + 1) 26 #[.int .u16 0, .int .u16 0, .int .u16 0, .int .i64 0, .int .i64 0, .int .i64 0, .int .i64 0, .bool false, .int .u16 0, .bool false, .int .u16 0, .bool false, .bool false] (0, 0) _ rfl (by refine blk_far ?_ (by simp <;> omega) _; refine blk_put (cs := #[.int .u16 0, .int .u16 0, .int .u16 0, .int .i64 0, .int .i64 0, .int .i64 0, .int .i64 0, .bool false, .int .u16 0, .bool false, .int .u16 0, .bool false, .bool false]) ?_ 12 _ rfl; refine blk_put (cs := #[.int .u16 0, .int .u16 0, .int .u16 0, .int .i64 0, .int .i64 0, .int .i64 0, .int .i64 0, .bool false, .int .u16 0, .bool false, .int .u16 0, .bool false, .bool false]) ?_ 11 _ rfl; refine blk_put (cs := #[.int .u16 0, .int .u16 0, .int .u16 0, .int .i64 0, .int .i64 0, .int .i64 0, .int .i64 0, .bool false, .int .u16 0, .bool false, .int .u16 0, .bool false, .bool false]) ?_ 10 _ rfl; refine blk_put (cs := #[.int .u16 0, .int .u16 0, .int .u16 0, .int .i64 0, .int .i64 0, .int .i64 0, .int .i64 0, .bool false, .int .u16 0, .bool false, .int .u16 0, .bool false, .bool false]) ?_ 9 _ rfl; refine blk_put (cs := #[.int .u16 0, .int .u16 0, .int .u16 0, .int .i64 0, .int .i64 0, .int .i64 0, .int .i64 0, .bool false, .int .u16 0, .bool false, .int .u16 0, .bool false, .bool false]) ?_ 8 _ rfl; refine blk_put (cs := #[.int .u16 0, .int .u16 0, .int .u16 0, .int .i64 0, .int .i64 0, .int .i64 0, .int .i64 0, .bool false, .int .u16 0, .bool false, .int .u16 0, .bool false, .bool false]) ?_ 7 _ rfl; refine blk_put (cs := #[.int .u16 0, .int .u16 0, .int .u16 0, .int .i64 0, .int .i64 0, .int .i64 0, .int .i64 0, .bool false, .int .u16 0, .bool false, .int .u16 0, .bool false, .bool false]) ?_ 6 _ rfl; refine blk_put (cs := #[.int .u16 0, .int .u16 0, .int .u16 0, .int .i64 0, .int .i64 0, .int .i64 0, .int .i64 0, .bool false, .int .u16 0, .bool false, .int .u16 0, .bool false, .bool false]) ?_ 5 _ rfl; refine blk_put (cs := #[.int .u16 0, .int .u16 0, .int .u16 0, .int .i64 0, .int .i64 0, .int .i64 0, .int .i64 0, .bool false, .int .u16 0, .bool false, .int .u16 0, .bool false, .bool false]) ?_ 4 _ rfl; refine blk_put (cs := #[.int .u16 0, .int .u16 0, .int .u16 0, .int .i64 0, .int .i64 0, .int .i64 0, .int .i64 0, .bool false, .int .u16 0, .bool false, .int .u16 0, .bool false, .bool false]) ?_ 3 _ rfl; refine blk_put (cs := #[.int .u16 0, .int .u16 0, .int .u16 0, .int .i64 0, .int .i64 0, .int .i64 0, .int .i64 0, .bool false, .int .u16 0, .bool false, .int .u16 0, .bool false, .bool false]) ?_ 2 _ rfl; refine blk_put (cs := #[.int .u16 0, .int .u16 0, .int .u16 0, .int .i64 0, .int .i64 0, .int .i64 0, .int .i64 0, .bool false, .int .u16 0, .bool false, .int .u16 0, .bool false, .bool false]) ?_ 1 _ rfl; refine blk_put (cs := #[.int .u16 0, .int .u16 0, .int .u16 0, .int .i64 0, .int .i64 0, .int .i64 0, .int .i64 0, .bool false, .int .u16 0, .bool false, .int .u16 0, .bool false, .bool false]) ?_ 0 _ rfl; exact K2.out) Tryz.underlying26 rfl (by kernel_rfl) (.cell (w.heap.size + 1 + 1 + 1) 78 #[.int .u16 0] (0, 0) _ rfl (by refine blk_put (cs := #[.int .u16 0]) ?_ 0 _ rfl; refine blk_far ?_ ne3 _; refine blk_far ?_ ne3 _; refine blk_far ?_ ne3 _; refine blk_far ?_ ne3 _; refine blk_far ?_ ne3 _; refine blk_far ?_ ne3 _; refine blk_far ?_ ne3 _; refine blk_far ?_ ne3 _; refine blk_far ?_ ne3 _; refine blk_far ?_ ne3 _; refine blk_far ?_ ne3 _; refine blk_far ?_ ne3 _; refine blk_far ?_ ne3 _; exact K3.out) Tryz.underlying78 rfl (by kernel_rfl) (.tmp (.tmp (.tmp .nil)))))) rfl ?_
 exact ⟨rfl, (below_set (below_set (below_set (below_set (below_set (below_set (below_set (below_set (below_set (below_set (below_set (below_set (below_set (below_set HB.out (by omega)) (by omega)) (by omega)) (by omega)) (by omega)) (by omega)) (by omega)) (by omega)) (by omega)) (by omega)) (by omega)) (by omega)) (by omega)) (by omega))⟩
theorem Enter_c2 (a l q z eb fb su : Int) (ext : Bool) (idx : Int) (held : Bool) (b : Int) (inh srv : Bool) (s nx : Int) (s0 : 0 ≤ s) (s1 : s < 65536) (hm : mayB l q z eb fb su idx b = true) (hc : (if alB a idx ext held inh srv = true then chR (chI s) else (0, false)) = (0, false)) (w : World) :
 Calls Tryz.prog 37 #[.agg #[.int .u16 a, .int .u16 l, .int .u16 q, .int .i64 z, .int .i64 eb, .int .i64 fb, .int .i64 su, .bool ext, .int .u16 idx, .bool held, .int .u16 b, .bool inh, .bool srv], .agg #[.int .u16 s], .int .u16 nx] w fun e w' => e = .returned (.tuple #[.agg #[.int .u16 0, .int .u16 0, .int .u16 0, .int .i64 0, .int .i64 0, .int .i64 0, .int .i64 0, .bool false, .int .u16 0, .bool false, .int .u16 0, .bool false, .bool false], .agg #[.int .u16 0], .slice none 0 0, .int .i64 0, .int .i64 14]) ∧ Below w.heap.size w w' := by
 have MC := Lib.hid (fun w => May_c a l q z eb fb su ext idx held b inh srv w)
 rw [hm] at MC
 have CC := Lib.hid (fun w => Choose_c s a l q z eb fb su ext idx held b inh srv s0 s1 w)
 rw [hc] at CC
 dsimp only at CC
 clear hm hc
 go_enter Tryz.func37, Tryz.ntmps37
 go_upto_region 5 with (first | (go_at_call 13; (with_reducible refine at_args #[.agg #[.int .u16 a, .int .u16 l, .int .u16 q, .int .i64 z, .int .i64 eb, .int .i64 fb, .int .i64 su, .bool ext, .int .u16 idx, .bool held, .int .u16 b, .bool inh, .bool srv]] ?_); refine (MC.out _).mono ?_; rintro e wa ⟨rfl, hb⟩; have n0 := Aside0.mk (blk_below (enter_k0 a l q z eb fb su ext idx held b inh srv s w) hb); have n1 := Aside0.mk (blk_below (enter_k1 a l q z eb fb su ext idx held b inh srv s w) hb); have n2 := Aside0.mk (blk_below (enter_k2 a l q z eb fb su ext idx held b inh srv s w) hb); have n3 := Aside0.mk (blk_below (enter_k3 a l q z eb fb su ext idx held b inh srv s w) hb); have nB := Aside0.mk (below_step (enter_kB a l q z eb fb su ext idx held b inh srv s w) hb); have K0 : Aside0 (wa.heap[w.heap.size]? = some (.cells #[.int .u16 a, .int .u16 l, .int .u16 q, .int .i64 z, .int .i64 eb, .int .i64 fb, .int .i64 su, .bool ext, .int .u16 idx, .bool held, .int .u16 b, .bool inh, .bool srv] 26 (0, 0))) := n0; have K1 : Aside0 (wa.heap[w.heap.size + 1]? = some (.cells #[.int .u16 s] 78 (0, 0))) := n1; have K2 : Aside0 (wa.heap[w.heap.size + 1 + 1]? = some (.cells #[.int .u16 0, .int .u16 0, .int .u16 0, .int .i64 0, .int .i64 0, .int .i64 0, .int .i64 0, .bool false, .int .u16 0, .bool false, .int .u16 0, .bool false, .bool false] 26 (0, 0))) := n2; have K3 : Aside0 (wa.heap[w.heap.size + 1 + 1 + 1]? = some (.cells #[.int .u16 0] 78 (0, 0))) := n3; have HB : Aside0 (Below w.heap.size w wa) := nB; clear n0 n1 n2 n3 nB hb; have g0 := blk_frozen K0.out; have x0 : wa.cell? ⟨w.heap.size, 0, none⟩ = some (.int .u16 a) := (blk_cell K0.out 0).trans rfl; have x1 : wa.cell? ⟨w.heap.size, 1, none⟩ = some (.int .u16 l) := (blk_cell K0.out 1).trans rfl; have x2 : wa.cell? ⟨w.heap.size, 2, none⟩ = some (.int .u16 q) := (blk_cell K0.out 2).trans rfl; have x3 : wa.cell? ⟨w.heap.size, 3, none⟩ = some (.int .i64 z) := (blk_cell K0.out 3).trans rfl; have x4 : wa.cell? ⟨w.heap.size, 4, none⟩ = some (.int .i64 eb) := (blk_cell K0.out 4).trans rfl; have x5 : wa.cell? ⟨w.heap.size, 5, none⟩ = some (.int .i64 fb) := (blk_cell K0.out 5).trans rfl; have x6 : wa.cell? ⟨w.heap.size, 6, none⟩ = some (.int .i64 su) := (blk_cell K0.out 6).trans rfl; have x7 : wa.cell? ⟨w.heap.size, 7, none⟩ = some (.bool ext) := (blk_cell K0.out 7).trans rfl; have x8 : wa.cell? ⟨w.heap.size, 8, none⟩ = some (.int .u16 idx) := (blk_cell K0.out 8).trans rfl; have x9 : wa.cell? ⟨w.heap.size, 9, none⟩ = some (.bool held) := (blk_cell K0.out 9).trans rfl; have x10 : wa.cell? ⟨w.heap.size, 10, none⟩ = some (.int .u16 b) := (blk_cell K0.out 10).trans rfl; have x11 : wa.cell? ⟨w.heap.size, 11, none⟩ = some (.bool inh) := (blk_cell K0.out 11).trans rfl; have x12 : wa.cell? ⟨w.heap.size, 12, none⟩ = some (.bool srv) := (blk_cell K0.out 12).trans rfl; have u0 : wa.cell? ⟨w.heap.size + 1, 0, none⟩ = some (.int .u16 s) := (blk_cell K1.out 0).trans rfl) | (go_at_call 67; (with_reducible refine at_args #[.agg #[.int .u16 s], .agg #[.int .u16 a, .int .u16 l, .int .u16 q, .int .i64 z, .int .i64 eb, .int .i64 fb, .int .i64 su, .bool ext, .int .u16 idx, .bool held, .int .u16 b, .bool inh, .bool srv]] ?_); refine (CC.out _).mono ?_; rintro e wc ⟨rfl, hb⟩; have n0 := kbb_ K0 hb; have n1 := kbb_ K1 hb; have n2 := kbb_ K2 hb; have n3 := kbb_ K3 hb; have nB := Aside0.mk (below_step HB.out hb); clear K0 K1 K2 K3 HB g0 x0 x1 x2 x3 x4 x5 x6 x7 x8 x9 x10 x11 x12 u0; have K0 : Aside0 (wc.heap[w.heap.size]? = some (.cells #[.int .u16 a, .int .u16 l, .int .u16 q, .int .i64 z, .int .i64 eb, .int .i64 fb, .int .i64 su, .bool ext, .int .u16 idx, .bool held, .int .u16 b, .bool inh, .bool srv] 26 (0, 0))) := n0; have K1 : Aside0 (wc.heap[w.heap.size + 1]? = some (.cells #[.int .u16 s] 78 (0, 0))) := n1; have K2 : Aside0 (wc.heap[w.heap.size + 1 + 1]? = some (.cells #[.int .u16 0, .int .u16 0, .int .u16 0, .int .i64 0, .int .i64 0, .int .i64 0, .int .i64 0, .bool false, .int .u16 0, .bool false, .int .u16 0, .bool false, .bool false] 26 (0, 0))) := n2; have K3 : Aside0 (wc.heap[w.heap.size + 1 + 1 + 1]? = some (.cells #[.int .u16 0] 78 (0, 0))) := n3; have HB : Aside0 (Below w.heap.size w wc) := nB; clear n0 n1 n2 n3 nB hb; have g0 := blk_frozen K0.out; have x0 : wc.cell? ⟨w.heap.size, 0, none⟩ = some (.int .u16 a) := (blk_cell K0.out 0).trans rfl; have x1 : wc.cell? ⟨w.heap.size, 1, none⟩ = some (.int .u16 l) := (blk_cell K0.out 1).trans rfl; have x2 : wc.cell? ⟨w.heap.size, 2, none⟩ = some (.int .u16 q) := (blk_cell K0.out 2).trans rfl; have x3 : wc.cell? ⟨w.heap.size, 3, none⟩ = some (.int .i64 z) := (blk_cell K0.out 3).trans rfl; have x4 : wc.cell? ⟨w.heap.size, 4, none⟩ = some (.int .i64 eb) := (blk_cell K0.out 4).trans rfl; have x5 : wc.cell? ⟨w.heap.size, 5, none⟩ = some (.int .i64 fb) := (blk_cell K0.out 5).trans rfl; have x6 : wc.cell? ⟨w.heap.size, 6, none⟩ = some (.int .i64 su) := (blk_cell K0.out 6).trans rfl; have x7 : wc.cell? ⟨w.heap.size, 7, none⟩ = some (.bool ext) := (blk_cell K0.out 7).trans rfl; have x8 : wc.cell? ⟨w.heap.size, 8, none⟩ = some (.int .u16 idx) := (blk_cell K0.out 8).trans rfl; have x9 : wc.cell? ⟨w.heap.size, 9, none⟩ = some (.bool held) := (blk_cell K0.out 9).trans rfl; have x10 : wc.cell? ⟨w.heap.size, 10, none⟩ = some (.int .u16 b) := (blk_cell K0.out 10).trans rfl; have x11 : wc.cell? ⟨w.heap.size, 11, none⟩ = some (.bool inh) := (blk_cell K0.out 11).trans rfl; have x12 : wc.cell? ⟨w.heap.size, 12, none⟩ = some (.bool srv) := (blk_cell K0.out 12).trans rfl; have u0 : wc.cell? ⟨w.heap.size + 1, 0, none⟩ = some (.int .u16 s) := (blk_cell K1.out 0).trans rfl))
 have g2 := blk_frozen K2.out
 have g3 := blk_frozen K3.out
 have y0 : wc.cell? ⟨w.heap.size + 1 + 1, 0, none⟩ = some (.int .u16 0) := (blk_cell K2.out 0).trans rfl; have y1 : wc.cell? ⟨w.heap.size + 1 + 1, 1, none⟩ = some (.int .u16 0) := (blk_cell K2.out 1).trans rfl; have y2 : wc.cell? ⟨w.heap.size + 1 + 1, 2, none⟩ = some (.int .u16 0) := (blk_cell K2.out 2).trans rfl; have y3 : wc.cell? ⟨w.heap.size + 1 + 1, 3, none⟩ = some (.int .i64 0) := (blk_cell K2.out 3).trans rfl; have y4 : wc.cell? ⟨w.heap.size + 1 + 1, 4, none⟩ = some (.int .i64 0) := (blk_cell K2.out 4).trans rfl; have y5 : wc.cell? ⟨w.heap.size + 1 + 1, 5, none⟩ = some (.int .i64 0) := (blk_cell K2.out 5).trans rfl; have y6 : wc.cell? ⟨w.heap.size + 1 + 1, 6, none⟩ = some (.int .i64 0) := (blk_cell K2.out 6).trans rfl; have y7 : wc.cell? ⟨w.heap.size + 1 + 1, 7, none⟩ = some (.bool false) := (blk_cell K2.out 7).trans rfl; have y8 : wc.cell? ⟨w.heap.size + 1 + 1, 8, none⟩ = some (.int .u16 0) := (blk_cell K2.out 8).trans rfl; have y9 : wc.cell? ⟨w.heap.size + 1 + 1, 9, none⟩ = some (.bool false) := (blk_cell K2.out 9).trans rfl; have y10 : wc.cell? ⟨w.heap.size + 1 + 1, 10, none⟩ = some (.int .u16 0) := (blk_cell K2.out 10).trans rfl; have y11 : wc.cell? ⟨w.heap.size + 1 + 1, 11, none⟩ = some (.bool false) := (blk_cell K2.out 11).trans rfl; have y12 : wc.cell? ⟨w.heap.size + 1 + 1, 12, none⟩ = some (.bool false) := (blk_cell K2.out 12).trans rfl
 have z0 : wc.cell? ⟨w.heap.size + 1 + 1 + 1, 0, none⟩ = some (.int .u16 0) := (blk_cell K3.out 0).trans rfl
 go_wp2
 have ne3 : w.heap.size + 1 + 1 + 1 ≠ w.heap.size + 1 + 1 := by omega
 refine bodyPost_ret (results_list (rs := [.cell 6 26, .cell 7 78, .tmp 8, .tmp 9, .tmp 10]) rfl (by simp) (.cell (w.heap.size + 1 + 1) 26 #[.int .u16 0, .int .u16 0, .int .u16 0, .int .i64 0, .int .i64 0, .int .i64 0, .int .i64 0, .bool false, .int .u16 0, .bool false, .int .u16 0, .bool false, .bool false] (0, 0) _ rfl (by refine blk_far ?_ (by simp <;> omega) _; refine blk_put (cs := #[.int .u16 0, .int .u16 0, .int .u16 0, .int .i64 0, .int .i64 0, .int .i64 0, .int .i64 0, .bool false, .int .u16 0, .bool false, .int .u16 0, .bool false, .bool false]) ?_ 12 _ rfl; refine blk_put (cs := #[.int .u16 0, .int .u16 0, .int .u16 0, .int .i64 0, .int .i64 0, .int .i64 0, .int .i64 0, .bool false, .int .u16 0, .bool false, .int .u16 0, .bool false, .bool false]) ?_ 11 _ rfl; refine blk_put (cs := #[.int .u16 0, .int .u16 0, .int .u16 0, .int .i64 0, .int .i64 0, .int .i64 0, .int .i64 0, .bool false, .int .u16 0, .bool false, .int .u16 0, .bool false, .bool false]) ?_ 10 _ rfl; refine blk_put (cs := #[.int .u16 0, .int .u16 0, .int .u16 0, .int .i64 0, .int .i64 0, .int .i64 0, .int .i64 0, .bool false, .int .u16 0, .bool false, .int .u16 0, .bool false, .bool false]) ?_ 9 _ rfl; refine blk_put (cs := #[.int .u16 0, .int .u16 0, .int .u16 0, .int .i64 0, .int .i64 0, .int .i64 0, .int .i64 0, .bool false, .int .u16 0, .bool false, .int .u16 0, .bool false, .bool false]) ?_ 8 _ rfl; refine blk_put (cs := #[.int .u16 0, .int .u16 0, .int .u16 0, .int .i64 0, .int .i64 0, .int .i64 0, .int .i64 0, .bool false, .int .u16 0, .bool false, .int .u16 0, .bool false, .bool false]) ?_ 7 _ rfl; refine blk_put (cs := #[.int .u16 0, .int .u16 0, .int .u16 0, .int .i64 0, .int .i64 0, .int .i64 0, .int .i64 0, .bool false, .int .u16 0, .bool false, .int .u16 0, .bool false, .bool false]) ?_ 6 _ rfl; refine blk_put (cs := #[.int .u16 0, .int .u16 0, .int .u16 0, .int .i64 0, .int .i64 0, .int .i64 0, .int .i64 0, .bool false, .int .u16 0, .bool false, .int .u16 0, .bool false, .bool false]) ?_ 5 _ rfl; refine blk_put (cs := #[.int .u16 0, .int .u16 0, .int .u16 0, .int .i64 0, .int .i64 0, .int .i64 0, .int .i64 0, .bool false, .int .u16 0, .bool false, .int .u16 0, .bool false, .bool false]) ?_ 4 _ rfl; refine blk_put (cs := #[.int .u16 0, .int .u16 0, .int .u16 0, .int .i64 0, .int .i64 0, .int .i64 0, .int .i64 0, .bool false, .int .u16 0, .bool false, .int .u16 0, .bool false, .bool false]) ?_ 3 _ rfl; refine blk_put (cs := #[.int .u16 0, .int .u16 0, .int .u16 0, .int .i64 0, .int .i64 0, .int .i64 0, .int .i64 0, .bool false, .int .u16 0, .bool false, .int .u16 0, .bool false, .bool false]) ?_ 2 _ rfl; refine blk_put (cs := #[.int .u16 0, .int .u16 0, .int .u16 0, .int .i64 0, .int .i64 0, .int .i64 0, .int .i64 0, .bool false, .int .u16 0, .bool false, .int .u16 0, .bool false, .bool false]) ?_ 1 _ rfl; refine blk_put (cs := #[.int .u16 0, .int .u16 0, .int .u16 0, .int .i64 0, .int .i64 0, .int .i64 0, .int .i64 0, .bool false, .int .u16 0, .bool false, .int .u16 0, .bool false, .bool false]) ?_ 0 _ rfl; exact K2.out) Tryz.underlying26 rfl (by kernel_rfl) (.cell (w.heap.size + 1 + 1 + 1) 78 #[.int .u16 0] (0, 0) _ rfl (by refine blk_put (cs := #[.int .u16 0]) ?_ 0 _ rfl; refine blk_far ?_ ne3 _; refine blk_far ?_ ne3 _; refine blk_far ?_ ne3 _; refine blk_far ?_ ne3 _; refine blk_far ?_ ne3 _; refine blk_far ?_ ne3 _; refine blk_far ?_ ne3 _; refine blk_far ?_ ne3 _; refine blk_far ?_ ne3 _; refine blk_far ?_ ne3 _; refine blk_far ?_ ne3 _; refine blk_far ?_ ne3 _; refine blk_far ?_ ne3 _; exact K3.out) Tryz.underlying78 rfl (by kernel_rfl) (.tmp (.tmp (.tmp .nil)))))) rfl ?_
 exact ⟨rfl, (below_set (below_set (below_set (below_set (below_set (below_set (below_set (below_set (below_set (below_set (below_set (below_set (below_set (below_set HB.out (by omega)) (by omega)) (by omega)) (by omega)) (by omega)) (by omega)) (by omega)) (by omega)) (by omega)) (by omega)) (by omega)) (by omega)) (by omega)) (by omega))⟩
theorem Enter_c3 (a l q z eb fb su : Int) (ext : Bool) (idx : Int) (held : Bool) (b : Int) (inh srv : Bool) (s nx n : Int) (s0 : 0 ≤ s) (s1 : s < 65536) (x0 : 0 ≤ nx) (x1 : nx < 65536) (hm : mayB l q z eb fb su idx b = true) (ha : alB a idx ext held inh srv = true) (hn : chI s = some n) (w : World) :
 Calls Tryz.prog 37 #[.agg #[.int .u16 a, .int .u16 l, .int .u16 q, .int .i64 z, .int .i64 eb, .int .i64 fb, .int .i64 su, .bool ext, .int .u16 idx, .bool held, .int .u16 b, .bool inh, .bool srv], .agg #[.int .u16 s], .int .u16 nx] w fun e w' => ∃ v, e = .returned (.tuple #[.agg #[.int .u16 a, .int .u16 l, .int .u16 q, .int .i64 (2048 + 4 * n), .int .i64 eb, .int .i64 fb, .int .i64 su, .bool ext, .int .u16 idx, .bool held, .int .u16 b, .bool inh, .bool true], .agg #[.int .u16 (le s n)], v, .int .i64 n, .int .i64 0]) ∧ Kd.R k61 61 w' w.heap.size (fun _ => True) v [⟨13, IntKind.u16.wrap z⟩, ⟨15, nx % 32768⟩] ∧ Below w.heap.size w w' := by
 have MC := Lib.hid (fun w => May_c a l q z eb fb su ext idx held b inh srv w)
 rw [hm] at MC
 have CC := Lib.hid (fun w => Choose_c s a l q z eb fb su ext idx held b inh srv s0 s1 w)
 have hch : chR (chI s) = (n, true) := by rw [hn]; rfl
 rw [if_pos ha, hch] at CC
 dsimp only at CC
 clear hch
 have nr := (chI_range hn).1
 have e1 : Go.bits .andNot .u16 (Go.bits .and .u16 s 2046) (IntKind.u16.wrap (2 ^ n.toNat)) = le s n := by rw [← shl_two nr.1 nr.2]; exact pLe s0 s1 nr.1 nr.2
 have e2 : Go.bits .and .u16 nx 32767 = nx % 32768 := and15 x0 x1
 have e3 : wrap64 (4 * n) = 4 * n := w64 (by omega) (by omega)
 have e4 : wrap64 (2048 + 4 * n) = 2048 + 4 * n := w64 (by omega) (by omega)
 have e5 : 0 ≤ n := by omega
 clear hm ha hn
 go_enter Tryz.func37, Tryz.ntmps37
 go_upto_region 7 with (first | (go_at_call 13; (with_reducible refine at_args #[.agg #[.int .u16 a, .int .u16 l, .int .u16 q, .int .i64 z, .int .i64 eb, .int .i64 fb, .int .i64 su, .bool ext, .int .u16 idx, .bool held, .int .u16 b, .bool inh, .bool srv]] ?_); refine (MC.out _).mono ?_; rintro e wa ⟨rfl, hb⟩; have n0 := Aside0.mk (blk_below (enter_k0 a l q z eb fb su ext idx held b inh srv s w) hb); have n1 := Aside0.mk (blk_below (enter_k1 a l q z eb fb su ext idx held b inh srv s w) hb); have n2 := Aside0.mk (blk_below (enter_k2 a l q z eb fb su ext idx held b inh srv s w) hb); have n3 := Aside0.mk (blk_below (enter_k3 a l q z eb fb su ext idx held b inh srv s w) hb); have nB := Aside0.mk (below_step (enter_kB a l q z eb fb su ext idx held b inh srv s w) hb); have K0 : Aside0 (wa.heap[w.heap.size]? = some (.cells #[.int .u16 a, .int .u16 l, .int .u16 q, .int .i64 z, .int .i64 eb, .int .i64 fb, .int .i64 su, .bool ext, .int .u16 idx, .bool held, .int .u16 b, .bool inh, .bool srv] 26 (0, 0))) := n0; have K1 : Aside0 (wa.heap[w.heap.size + 1]? = some (.cells #[.int .u16 s] 78 (0, 0))) := n1; have K2 : Aside0 (wa.heap[w.heap.size + 1 + 1]? = some (.cells #[.int .u16 0, .int .u16 0, .int .u16 0, .int .i64 0, .int .i64 0, .int .i64 0, .int .i64 0, .bool false, .int .u16 0, .bool false, .int .u16 0, .bool false, .bool false] 26 (0, 0))) := n2; have K3 : Aside0 (wa.heap[w.heap.size + 1 + 1 + 1]? = some (.cells #[.int .u16 0] 78 (0, 0))) := n3; have HB : Aside0 (Below w.heap.size w wa) := nB; clear n0 n1 n2 n3 nB hb; have g0 := blk_frozen K0.out; have x0 : wa.cell? ⟨w.heap.size, 0, none⟩ = some (.int .u16 a) := (blk_cell K0.out 0).trans rfl; have x1 : wa.cell? ⟨w.heap.size, 1, none⟩ = some (.int .u16 l) := (blk_cell K0.out 1).trans rfl; have x2 : wa.cell? ⟨w.heap.size, 2, none⟩ = some (.int .u16 q) := (blk_cell K0.out 2).trans rfl; have x3 : wa.cell? ⟨w.heap.size, 3, none⟩ = some (.int .i64 z) := (blk_cell K0.out 3).trans rfl; have x4 : wa.cell? ⟨w.heap.size, 4, none⟩ = some (.int .i64 eb) := (blk_cell K0.out 4).trans rfl; have x5 : wa.cell? ⟨w.heap.size, 5, none⟩ = some (.int .i64 fb) := (blk_cell K0.out 5).trans rfl; have x6 : wa.cell? ⟨w.heap.size, 6, none⟩ = some (.int .i64 su) := (blk_cell K0.out 6).trans rfl; have x7 : wa.cell? ⟨w.heap.size, 7, none⟩ = some (.bool ext) := (blk_cell K0.out 7).trans rfl; have x8 : wa.cell? ⟨w.heap.size, 8, none⟩ = some (.int .u16 idx) := (blk_cell K0.out 8).trans rfl; have x9 : wa.cell? ⟨w.heap.size, 9, none⟩ = some (.bool held) := (blk_cell K0.out 9).trans rfl; have x10 : wa.cell? ⟨w.heap.size, 10, none⟩ = some (.int .u16 b) := (blk_cell K0.out 10).trans rfl; have x11 : wa.cell? ⟨w.heap.size, 11, none⟩ = some (.bool inh) := (blk_cell K0.out 11).trans rfl; have x12 : wa.cell? ⟨w.heap.size, 12, none⟩ = some (.bool srv) := (blk_cell K0.out 12).trans rfl; have u0 : wa.cell? ⟨w.heap.size + 1, 0, none⟩ = some (.int .u16 s) := (blk_cell K1.out 0).trans rfl) | (go_at_call 67; (with_reducible refine at_args #[.agg #[.int .u16 s], .agg #[.int .u16 a, .int .u16 l, .int .u16 q, .int .i64 z, .int .i64 eb, .int .i64 fb, .int .i64 su, .bool ext, .int .u16 idx, .bool held, .int .u16 b, .bool inh, .bool srv]] ?_); refine (CC.out _).mono ?_; rintro e wc ⟨rfl, hb⟩; have n0 := kbb_ K0 hb; have n1 := kbb_ K1 hb; have n2 := kbb_ K2 hb; have n3 := kbb_ K3 hb; have nB := Aside0.mk (below_step HB.out hb); clear K0 K1 K2 K3 HB g0 x0 x1 x2 x3 x4 x5 x6 x7 x8 x9 x10 x11 x12 u0; have K0 : Aside0 (wc.heap[w.heap.size]? = some (.cells #[.int .u16 a, .int .u16 l, .int .u16 q, .int .i64 z, .int .i64 eb, .int .i64 fb, .int .i64 su, .bool ext, .int .u16 idx, .bool held, .int .u16 b, .bool inh, .bool srv] 26 (0, 0))) := n0; have K1 : Aside0 (wc.heap[w.heap.size + 1]? = some (.cells #[.int .u16 s] 78 (0, 0))) := n1; have K2 : Aside0 (wc.heap[w.heap.size + 1 + 1]? = some (.cells #[.int .u16 0, .int .u16 0, .int .u16 0, .int .i64 0, .int .i64 0, .int .i64 0, .int .i64 0, .bool false, .int .u16 0, .bool false, .int .u16 0, .bool false, .bool false] 26 (0, 0))) := n2; have K3 : Aside0 (wc.heap[w.heap.size + 1 + 1 + 1]? = some (.cells #[.int .u16 0] 78 (0, 0))) := n3; have HB : Aside0 (Below w.heap.size w wc) := nB; clear n0 n1 n2 n3 nB hb; have g0 := blk_frozen K0.out; have x0 : wc.cell? ⟨w.heap.size, 0, none⟩ = some (.int .u16 a) := (blk_cell K0.out 0).trans rfl; have x1 : wc.cell? ⟨w.heap.size, 1, none⟩ = some (.int .u16 l) := (blk_cell K0.out 1).trans rfl; have x2 : wc.cell? ⟨w.heap.size, 2, none⟩ = some (.int .u16 q) := (blk_cell K0.out 2).trans rfl; have x3 : wc.cell? ⟨w.heap.size, 3, none⟩ = some (.int .i64 z) := (blk_cell K0.out 3).trans rfl; have x4 : wc.cell? ⟨w.heap.size, 4, none⟩ = some (.int .i64 eb) := (blk_cell K0.out 4).trans rfl; have x5 : wc.cell? ⟨w.heap.size, 5, none⟩ = some (.int .i64 fb) := (blk_cell K0.out 5).trans rfl; have x6 : wc.cell? ⟨w.heap.size, 6, none⟩ = some (.int .i64 su) := (blk_cell K0.out 6).trans rfl; have x7 : wc.cell? ⟨w.heap.size, 7, none⟩ = some (.bool ext) := (blk_cell K0.out 7).trans rfl; have x8 : wc.cell? ⟨w.heap.size, 8, none⟩ = some (.int .u16 idx) := (blk_cell K0.out 8).trans rfl; have x9 : wc.cell? ⟨w.heap.size, 9, none⟩ = some (.bool held) := (blk_cell K0.out 9).trans rfl; have x10 : wc.cell? ⟨w.heap.size, 10, none⟩ = some (.int .u16 b) := (blk_cell K0.out 10).trans rfl; have x11 : wc.cell? ⟨w.heap.size, 11, none⟩ = some (.bool inh) := (blk_cell K0.out 11).trans rfl; have x12 : wc.cell? ⟨w.heap.size, 12, none⟩ = some (.bool srv) := (blk_cell K0.out 12).trans rfl; have u0 : wc.cell? ⟨w.heap.size + 1, 0, none⟩ = some (.int .u16 s) := (blk_cell K1.out 0).trans rfl))
 have hlt := Aside0.mk (blk_lt K3.out)
 have L4 : Aside0 ((World.heap (wc.alloc (.cells #[.int .i64 13, .int .u16 (IntKind.u16.wrap z), .int .i64 15, .int .u16 (nx % 32768)] 61)))[wc.heap.size]? = some (.cells #[.int .i64 13, .int .u16 (IntKind.u16.wrap z), .int .i64 15, .int .u16 (nx % 32768)] 61 (0, 0))) := ⟨blk_new wc _⟩
 have hbs := below_size HB.out
 have R4 : Aside0 (Kd.R k61 61 (wc.alloc (.cells #[.int .i64 13, .int .u16 (IntKind.u16.wrap z), .int .i64 15, .int .u16 (nx % 32768)] 61)) w.heap.size (fun q => q = wc.heap.size) (.slice (some ⟨wc.heap.size, 0, none⟩) 2 2) [⟨13, IntKind.u16.wrap z⟩, ⟨15, nx % 32768⟩]) := ⟨⟨fun k hk => (by have h : wc.heap.size = k := (by simpa [Value.ownBlock] using hk); exact h.symm), [.int .i64 13, .int .u16 (IntKind.u16.wrap z), .int .i64 15, .int .u16 (nx % 32768)], (by have h2 := World.ownsRow_lit (base := w.heap.size) (e := 61) (size := 2) wc #[.int .i64 13, .int .u16 (IntKind.u16.wrap z), .int .i64 15, .int .u16 (nx % 32768)] 2 hbs (by decide) rfl; simp at h2; exact h2), Reps.c2 (k61_mkM _ _ _ ⟨13, IntKind.u16.wrap z⟩) (Reps.c2 (k61_mkM _ _ _ ⟨15, nx % 32768⟩) (Reps.none _ _))⟩⟩
 clear hbs L4
 have n0 : Aside0 ((World.heap (wc.alloc (.cells #[.int .i64 13, .int .u16 (IntKind.u16.wrap z), .int .i64 15, .int .u16 (nx % 32768)] 61)))[w.heap.size]? = some (.cells #[.int .u16 a, .int .u16 l, .int .u16 q, .int .i64 z, .int .i64 eb, .int .i64 fb, .int .i64 su, .bool ext, .int .u16 idx, .bool held, .int .u16 b, .bool inh, .bool srv] 26 (0, 0))) := ⟨blk_alloc K0.out _⟩
 have n1 : Aside0 ((World.heap (wc.alloc (.cells #[.int .i64 13, .int .u16 (IntKind.u16.wrap z), .int .i64 15, .int .u16 (nx % 32768)] 61)))[w.heap.size + 1]? = some (.cells #[.int .u16 s] 78 (0, 0))) := ⟨blk_alloc K1.out _⟩
 have n2 : Aside0 ((World.heap (wc.alloc (.cells #[.int .i64 13, .int .u16 (IntKind.u16.wrap z), .int .i64 15, .int .u16 (nx % 32768)] 61)))[w.heap.size + 1 + 1]? = some (.cells #[.int .u16 0, .int .u16 0, .int .u16 0, .int .i64 0, .int .i64 0, .int .i64 0, .int .i64 0, .bool false, .int .u16 0, .bool false, .int .u16 0, .bool false, .bool false] 26 (0, 0))) := ⟨blk_alloc K2.out _⟩
 have n3 : Aside0 ((World.heap (wc.alloc (.cells #[.int .i64 13, .int .u16 (IntKind.u16.wrap z), .int .i64 15, .int .u16 (nx % 32768)] 61)))[w.heap.size + 1 + 1 + 1]? = some (.cells #[.int .u16 0] 78 (0, 0))) := ⟨blk_alloc K3.out _⟩
 have nB : Aside0 (Below w.heap.size w (wc.alloc (.cells #[.int .i64 13, .int .u16 (IntKind.u16.wrap z), .int .i64 15, .int .u16 (nx % 32768)] 61))) := ⟨below_alloc HB.out _⟩
 have hge : w.heap.size + 1 + 1 + 1 < wc.heap.size := hlt.out
 clear K0 K1 K2 K3 HB hlt g0 u0 x0 x1 x2 x3 x4 x5 x6 x7 x8 x9 x10 x11 x12
 generalize wc.alloc (.cells #[.int .i64 13, .int .u16 (IntKind.u16.wrap z), .int .i64 15, .int .u16 (nx % 32768)] 61) = wd at R4 n0 n1 n2 n3 nB ⊢
 obtain ⟨b4, hb4⟩ : ∃ x, wc.heap.size = x := ⟨_, rfl⟩
 rw [hb4] at R4 hge ⊢
 clear hb4
 have K0 := n0
 have K1 := n1
 have K2 := n2
 have K3 := n3
 have HB := nB
 clear n0 n1 n2 n3 nB
 have g0 := blk_frozen K0.out
 have x0 : wd.cell? ⟨w.heap.size, 0, none⟩ = some (.int .u16 a) := (blk_cell K0.out 0).trans rfl; have x1 : wd.cell? ⟨w.heap.size, 1, none⟩ = some (.int .u16 l) := (blk_cell K0.out 1).trans rfl; have x2 : wd.cell? ⟨w.heap.size, 2, none⟩ = some (.int .u16 q) := (blk_cell K0.out 2).trans rfl; have x3 : wd.cell? ⟨w.heap.size, 3, none⟩ = some (.int .i64 z) := (blk_cell K0.out 3).trans rfl; have x4 : wd.cell? ⟨w.heap.size, 4, none⟩ = some (.int .i64 eb) := (blk_cell K0.out 4).trans rfl; have x5 : wd.cell? ⟨w.heap.size, 5, none⟩ = some (.int .i64 fb) := (blk_cell K0.out 5).trans rfl; have x6 : wd.cell? ⟨w.heap.size, 6, none⟩ = some (.int .i64 su) := (blk_cell K0.out 6).trans rfl; have x7 : wd.cell? ⟨w.heap.size, 7, none⟩ = some (.bool ext) := (blk_cell K0.out 7).trans rfl; have x8 : wd.cell? ⟨w.heap.size, 8, none⟩ = some (.int .u16 idx) := (blk_cell K0.out 8).trans rfl; have x9 : wd.cell? ⟨w.heap.size, 9, none⟩ = some (.bool held) := (blk_cell K0.out 9).trans rfl; have x10 : wd.cell? ⟨w.heap.size, 10, none⟩ = some (.int .u16 b) := (blk_cell K0.out 10).trans rfl; have x11 : wd.cell? ⟨w.heap.size, 11, none⟩ = some (.bool inh) := (blk_cell K0.out 11).trans rfl; have x12 : wd.cell? ⟨w.heap.size, 12, none⟩ = some (.bool srv) := (blk_cell K0.out 12).trans rfl
 have u0 : wd.cell? ⟨w.heap.size + 1, 0, none⟩ = some (.int .u16 s) := (blk_cell K1.out 0).trans rfl
 go_upto_region 8 with fail
 have n0 : Aside0 ((World.heap ((wd.setCell ⟨w.heap.size, 3, none⟩ (.int .i64 (2048 + 4 * n))).setCell ⟨w.heap.size, 12, none⟩ (.bool true)))[w.heap.size]? = some (.cells #[.int .u16 a, .int .u16 l, .int .u16 q, .int .i64 (2048 + 4 * n), .int .i64 eb, .int .i64 fb, .int .i64 su, .bool ext, .int .u16 idx, .bool held, .int .u16 b, .bool inh, .bool true] 26 (0, 0))) := ⟨blk_put (cs := #[.int .u16 a, .int .u16 l, .int .u16 q, .int .i64 (2048 + 4 * n), .int .i64 eb, .int .i64 fb, .int .i64 su, .bool ext, .int .u16 idx, .bool held, .int .u16 b, .bool inh, .bool srv]) (blk_put K0.out 3 _ rfl) 12 _ rfl⟩
 have n1 : Aside0 ((World.heap ((wd.setCell ⟨w.heap.size, 3, none⟩ (.int .i64 (2048 + 4 * n))).setCell ⟨w.heap.size, 12, none⟩ (.bool true)))[w.heap.size + 1]? = some (.cells #[.int .u16 s] 78 (0, 0))) := ⟨blk_far (blk_far K1.out (by simp <;> omega) _) (by simp <;> omega) _⟩
 have n2 : Aside0 ((World.heap ((wd.setCell ⟨w.heap.size, 3, none⟩ (.int .i64 (2048 + 4 * n))).setCell ⟨w.heap.size, 12, none⟩ (.bool true)))[w.heap.size + 1 + 1]? = some (.cells #[.int .u16 0, .int .u16 0, .int .u16 0, .int .i64 0, .int .i64 0, .int .i64 0, .int .i64 0, .bool false, .int .u16 0, .bool false, .int .u16 0, .bool false, .bool false] 26 (0, 0))) := ⟨blk_far (blk_far K2.out (by simp <;> omega) _) (by simp <;> omega) _⟩
 have n3 : Aside0 ((World.heap ((wd.setCell ⟨w.heap.size, 3, none⟩ (.int .i64 (2048 + 4 * n))).setCell ⟨w.heap.size, 12, none⟩ (.bool true)))[w.heap.size + 1 + 1 + 1]? = some (.cells #[.int .u16 0] 78 (0, 0))) := ⟨blk_far (blk_far K3.out (by simp <;> omega) _) (by simp <;> omega) _⟩
 have ne0 : ∀ q, q = b4 → q ≠ w.heap.size := fun q h => by omega
 have S4 : Aside0 (Kd.R k61 61 ((wd.setCell ⟨w.heap.size, 3, none⟩ (.int .i64 (2048 + 4 * n))).setCell ⟨w.heap.size, 12, none⟩ (.bool true)) w.heap.size (fun q => q = b4) (.slice (some ⟨b4, 0, none⟩) 2 2) [⟨13, IntKind.u16.wrap z⟩, ⟨15, nx % 32768⟩]) := ⟨Kd.R_far (Kd.R_far R4.out (fun q h => ne0 q h) _) (fun q h => ne0 q h) _⟩
 have nB : Aside0 (Below w.heap.size w ((wd.setCell ⟨w.heap.size, 3, none⟩ (.int .i64 (2048 + 4 * n))).setCell ⟨w.heap.size, 12, none⟩ (.bool true))) := ⟨below_set (below_set HB.out (Nat.le_refl _)) (Nat.le_refl _)⟩
 clear K0 K1 K2 K3 HB R4 g0 u0 ne0 x0 x1 x2 x3 x4 x5 x6 x7 x8 x9 x10 x11 x12
 generalize (wd.setCell ⟨w.heap.size, 3, none⟩ (.int .i64 (2048 + 4 * n))).setCell ⟨w.heap.size, 12, none⟩ (.bool true) = we at S4 n0 n1 n2 n3 nB ⊢
 have K0 := n0
 have K1 := n1
 have K2 := n2
 have K3 := n3
 have HB := nB
 clear n0 n1 n2 n3 nB
 have g0 := blk_frozen K0.out
 have x0 : we.cell? ⟨w.heap.size, 0, none⟩ = some (.int .u16 a) := (blk_cell K0.out 0).trans rfl; have x1 : we.cell? ⟨w.heap.size, 1, none⟩ = some (.int .u16 l) := (blk_cell K0.out 1).trans rfl; have x2 : we.cell? ⟨w.heap.size, 2, none⟩ = some (.int .u16 q) := (blk_cell K0.out 2).trans rfl; have x3 : we.cell? ⟨w.heap.size, 3, none⟩ = some (.int .i64 (2048 + 4 * n)) := (blk_cell K0.out 3).trans rfl; have x4 : we.cell? ⟨w.heap.size, 4, none⟩ = some (.int .i64 eb) := (blk_cell K0.out 4).trans rfl; have x5 : we.cell? ⟨w.heap.size, 5, none⟩ = some (.int .i64 fb) := (blk_cell K0.out 5).trans rfl; have x6 : we.cell? ⟨w.heap.size, 6, none⟩ = some (.int .i64 su) := (blk_cell K0.out 6).trans rfl; have x7 : we.cell? ⟨w.heap.size, 7, none⟩ = some (.bool ext) := (blk_cell K0.out 7).trans rfl; have x8 : we.cell? ⟨w.heap.size, 8, none⟩ = some (.int .u16 idx) := (blk_cell K0.out 8).trans rfl; have x9 : we.cell? ⟨w.heap.size, 9, none⟩ = some (.bool held) := (blk_cell K0.out 9).trans rfl; have x10 : we.cell? ⟨w.heap.size, 10, none⟩ = some (.int .u16 b) := (blk_cell K0.out 10).trans rfl; have x11 : we.cell? ⟨w.heap.size, 11, none⟩ = some (.bool inh) := (blk_cell K0.out 11).trans rfl; have x12 : we.cell? ⟨w.heap.size, 12, none⟩ = some (.bool true) := (blk_cell K0.out 12).trans rfl
 have u0 : we.cell? ⟨w.heap.size + 1, 0, none⟩ = some (.int .u16 s) := (blk_cell K1.out 0).trans rfl
 have g2 := blk_frozen K2.out
 have g3 := blk_frozen K3.out
 have y0 : we.cell? ⟨w.heap.size + 1 + 1, 0, none⟩ = some (.int .u16 0) := (blk_cell K2.out 0).trans rfl; have y1 : we.cell? ⟨w.heap.size + 1 + 1, 1, none⟩ = some (.int .u16 0) := (blk_cell K2.out 1).trans rfl; have y2 : we.cell? ⟨w.heap.size + 1 + 1, 2, none⟩ = some (.int .u16 0) := (blk_cell K2.out 2).trans rfl; have y3 : we.cell? ⟨w.heap.size + 1 + 1, 3, none⟩ = some (.int .i64 0) := (blk_cell K2.out 3).trans rfl; have y4 : we.cell? ⟨w.heap.size + 1 + 1, 4, none⟩ = some (.int .i64 0) := (blk_cell K2.out 4).trans rfl; have y5 : we.cell? ⟨w.heap.size + 1 + 1, 5, none⟩ = some (.int .i64 0) := (blk_cell K2.out 5).trans rfl; have y6 : we.cell? ⟨w.heap.size + 1 + 1, 6, none⟩ = some (.int .i64 0) := (blk_cell K2.out 6).trans rfl; have y7 : we.cell? ⟨w.heap.size + 1 + 1, 7, none⟩ = some (.bool false) := (blk_cell K2.out 7).trans rfl; have y8 : we.cell? ⟨w.heap.size + 1 + 1, 8, none⟩ = some (.int .u16 0) := (blk_cell K2.out 8).trans rfl; have y9 : we.cell? ⟨w.heap.size + 1 + 1, 9, none⟩ = some (.bool false) := (blk_cell K2.out 9).trans rfl; have y10 : we.cell? ⟨w.heap.size + 1 + 1, 10, none⟩ = some (.int .u16 0) := (blk_cell K2.out 10).trans rfl; have y11 : we.cell? ⟨w.heap.size + 1 + 1, 11, none⟩ = some (.bool false) := (blk_cell K2.out 11).trans rfl; have y12 : we.cell? ⟨w.heap.size + 1 + 1, 12, none⟩ = some (.bool false) := (blk_cell K2.out 12).trans rfl
 have z0 : we.cell? ⟨w.heap.size + 1 + 1 + 1, 0, none⟩ = some (.int .u16 0) := (blk_cell K3.out 0).trans rfl
 go_region
 go_wp2
 have ne2 : ∀ q, q = b4 → q ≠ w.heap.size + 1 + 1 := fun q h => by omega
 have ne4 : ∀ q, q = b4 → q ≠ w.heap.size + 1 + 1 + 1 := fun q h => by omega
 have ne3 : w.heap.size + 1 + 1 + 1 ≠ w.heap.size + 1 + 1 := by omega
 refine bodyPost_ret (results_list (rs := [.cell 6 26, .cell 7 78, .tmp 8, .tmp 9, .tmp 10]) rfl (by simp) (.cell (w.heap.size + 1 + 1) 26 #[.int .u16 a, .int .u16 l, .int .u16 q, .int .i64 (2048 + 4 * n), .int .i64 eb, .int .i64 fb, .int .i64 su, .bool ext, .int .u16 idx, .bool held, .int .u16 b, .bool inh, .bool true] (0, 0) _ rfl (by refine blk_drew ?_; refine blk_far ?_ (by simp <;> omega) _; refine blk_put (cs := #[.int .u16 a, .int .u16 l, .int .u16 q, .int .i64 (2048 + 4 * n), .int .i64 eb, .int .i64 fb, .int .i64 su, .bool ext, .int .u16 idx, .bool held, .int .u16 b, .bool inh, .bool false]) ?_ 12 _ rfl; refine blk_put (cs := #[.int .u16 a, .int .u16 l, .int .u16 q, .int .i64 (2048 + 4 * n), .int .i64 eb, .int .i64 fb, .int .i64 su, .bool ext, .int .u16 idx, .bool held, .int .u16 b, .bool false, .bool false]) ?_ 11 _ rfl; refine blk_put (cs := #[.int .u16 a, .int .u16 l, .int .u16 q, .int .i64 (2048 + 4 * n), .int .i64 eb, .int .i64 fb, .int .i64 su, .bool ext, .int .u16 idx, .bool held, .int .u16 0, .bool false, .bool false]) ?_ 10 _ rfl; refine blk_put (cs := #[.int .u16 a, .int .u16 l, .int .u16 q, .int .i64 (2048 + 4 * n), .int .i64 eb, .int .i64 fb, .int .i64 su, .bool ext, .int .u16 idx, .bool false, .int .u16 0, .bool false, .bool false]) ?_ 9 _ rfl; refine blk_put (cs := #[.int .u16 a, .int .u16 l, .int .u16 q, .int .i64 (2048 + 4 * n), .int .i64 eb, .int .i64 fb, .int .i64 su, .bool ext, .int .u16 0, .bool false, .int .u16 0, .bool false, .bool false]) ?_ 8 _ rfl; refine blk_put (cs := #[.int .u16 a, .int .u16 l, .int .u16 q, .int .i64 (2048 + 4 * n), .int .i64 eb, .int .i64 fb, .int .i64 su, .bool false, .int .u16 0, .bool false, .int .u16 0, .bool false, .bool false]) ?_ 7 _ rfl; refine blk_put (cs := #[.int .u16 a, .int .u16 l, .int .u16 q, .int .i64 (2048 + 4 * n), .int .i64 eb, .int .i64 fb, .int .i64 0, .bool false, .int .u16 0, .bool false, .int .u16 0, .bool false, .bool false]) ?_ 6 _ rfl; refine blk_put (cs := #[.int .u16 a, .int .u16 l, .int .u16 q, .int .i64 (2048 + 4 * n), .int .i64 eb, .int .i64 0, .int .i64 0, .bool false, .int .u16 0, .bool false, .int .u16 0, .bool false, .bool false]) ?_ 5 _ rfl; refine blk_put (cs := #[.int .u16 a, .int .u16 l, .int .u16 q, .int .i64 (2048 + 4 * n), .int .i64 0, .int .i64 0, .int .i64 0, .bool false, .int .u16 0, .bool false, .int .u16 0, .bool false, .bool false]) ?_ 4 _ rfl; refine blk_put (cs := #[.int .u16 a, .int .u16 l, .int .u16 q, .int .i64 0, .int .i64 0, .int .i64 0, .int .i64 0, .bool false, .int .u16 0, .bool false, .int .u16 0, .bool false, .bool false]) ?_ 3 _ rfl; refine blk_put (cs := #[.int .u16 a, .int .u16 l, .int .u16 0, .int .i64 0, .int .i64 0, .int .i64 0, .int .i64 0, .bool false, .int .u16 0, .bool false, .int .u16 0, .bool false, .bool false]) ?_ 2 _ rfl; refine blk_put (cs := #[.int .u16 a, .int .u16 0, .int .u16 0, .int .i64 0, .int .i64 0, .int .i64 0, .int .i64 0, .bool false, .int .u16 0, .bool false, .int .u16 0, .bool false, .bool false]) ?_ 1 _ rfl; refine blk_put (cs := #[.int .u16 0, .int .u16 0, .int .u16 0, .int .i64 0, .int .i64 0, .int .i64 0, .int .i64 0, .bool false, .int .u16 0, .bool false, .int .u16 0, .bool false, .bool false]) ?_ 0 _ rfl; exact K2.out) Tryz.underlying26 rfl (by kernel_rfl) (.cell (w.heap.size + 1 + 1 + 1) 78 #[.int .u16 (le s n)] (0, 0) _ rfl (by refine blk_drew ?_; refine blk_put (cs := #[.int .u16 0]) ?_ 0 _ rfl; refine blk_far ?_ ne3 _; refine blk_far ?_ ne3 _; refine blk_far ?_ ne3 _; refine blk_far ?_ ne3 _; refine blk_far ?_ ne3 _; refine blk_far ?_ ne3 _; refine blk_far ?_ ne3 _; refine blk_far ?_ ne3 _; refine blk_far ?_ ne3 _; refine blk_far ?_ ne3 _; refine blk_far ?_ ne3 _; refine blk_far ?_ ne3 _; refine blk_far ?_ ne3 _; exact K3.out) Tryz.underlying78 rfl (by kernel_rfl) (.tmp (.tmp (.tmp .nil)))))) rfl ?_
 exact ⟨_, rfl, Kd.R_mono (Kd.R_drew (Kd.R_far (Kd.R_far (Kd.R_far (Kd.R_far (Kd.R_far (Kd.R_far (Kd.R_far (Kd.R_far (Kd.R_far (Kd.R_far (Kd.R_far (Kd.R_far (Kd.R_far (Kd.R_far S4.out ne2 _) ne2 _) ne2 _) ne2 _) ne2 _) ne2 _) ne2 _) ne2 _) ne2 _) ne2 _) ne2 _) ne2 _) ne2 _) ne4 _)) (fun _ _ => trivial), below_drew1 (below_set (below_set (below_set (below_set (below_set (below_set (below_set (below_set (below_set (below_set (below_set (below_set (below_set (below_set HB.out (by omega)) (by omega)) (by omega)) (by omega)) (by omega)) (by omega)) (by omega)) (by omega)) (by omega)) (by omega)) (by omega)) (by omega)) (by omega)) (by omega))⟩
end Go.Proofs.YthfobpkdloejfaaGreat.Rup
end
section
namespace Go.Proofs.YthfobpkdloejfaaGreat.Rup
open Go.RowKit Go.Proofs.YthfobpkdloejfaaGreat.PAll Go.Proofs.YthfobpkdloejfaaGreatW.PrintWords Go.Proofs.YthfobpkdloejfaaGreatW.PrintLast Go.Proofs.YthfobpkdloejfaaGreatW.PrintMore Go.Proofs.YthfobpkdloejfaaGreat.Plain Go.Proofs.YthfobpkdloejfaaGreat.Lit
theorem eqA26 (d : Nat) (w : World) (x0 y0 : Int) (x1 y1 : Int) (x2 y2 : Int) (x3 y3 : Int) (x4 y4 : Int) (x5 y5 : Int) (x6 y6 : Int) (x7 y7 : Bool) (x8 y8 : Int) (x9 y9 : Bool) (x10 y10 : Int) (x11 y11 : Bool) (x12 y12 : Bool) :
 (Op.equalIn (d + 2) 26 (.agg #[.int .u16 x0, .int .u16 x1, .int .u16 x2, .int .i64 x3, .int .i64 x4, .int .i64 x5, .int .i64 x6, .bool x7, .int .u16 x8, .bool x9, .int .u16 x10, .bool x11, .bool x12]) (.agg #[.int .u16 y0, .int .u16 y1, .int .u16 y2, .int .i64 y3, .int .i64 y4, .int .i64 y5, .int .i64 y6, .bool y7, .int .u16 y8, .bool y9, .int .u16 y10, .bool y11, .bool y12])).run Tryz.prog w = .ok (x0 == y0 && (x1 == y1 && (x2 == y2 && (x3 == y3 && (x4 == y4 && (x5 == y5 && (x6 == y6 && (x7 == y7 && (x8 == y8 && (x9 == y9 && (x10 == y10 && (x11 == y11 && (x12 == y12))))))))))))) w := by
 refine eqA_of Tryz.underlying26 (by kernel_rfl) ?_
 refine eqf_cons (by rfl) (by go_simp; rfl) (by go_simp; rfl) (by go_simp) ?_
 refine eqf_cons (by rfl) (by go_simp; rfl) (by go_simp; rfl) (by go_simp) ?_
 refine eqf_cons (by rfl) (by go_simp; rfl) (by go_simp; rfl) (by go_simp) ?_
 refine eqf_cons (by rfl) (by go_simp; rfl) (by go_simp; rfl) (by go_simp) ?_
 refine eqf_cons (by rfl) (by go_simp; rfl) (by go_simp; rfl) (by go_simp) ?_
 refine eqf_cons (by rfl) (by go_simp; rfl) (by go_simp; rfl) (by go_simp) ?_
 refine eqf_cons (by rfl) (by go_simp; rfl) (by go_simp; rfl) (by go_simp) ?_
 refine eqf_cons (by rfl) (by go_simp; rfl) (by go_simp; rfl) (by go_simp) ?_
 refine eqf_cons (by rfl) (by go_simp; rfl) (by go_simp; rfl) (by go_simp) ?_
 refine eqf_cons (by rfl) (by go_simp; rfl) (by go_simp; rfl) (by go_simp) ?_
 refine eqf_cons (by rfl) (by go_simp; rfl) (by go_simp; rfl) (by go_simp) ?_
 refine eqf_cons (by rfl) (by go_simp; rfl) (by go_simp; rfl) (by go_simp) ?_
 exact eqf_last (by rfl) (by go_simp; rfl) (by go_simp; rfl) (by go_simp)
theorem eqS26 (d : Nat) (w : World) (x0 : Int) (x1 : Int) (x2 : Int) (x3 : Int) (x4 : Int) (x5 : Int) (x6 : Int) (x7 : Bool) (x8 : Int) (x9 : Bool) (x10 : Int) (x11 : Bool) (x12 : Bool) :
 (Op.equalIn (d + 2) 26 (.agg #[.int .u16 x0, .int .u16 x1, .int .u16 x2, .int .i64 x3, .int .i64 x4, .int .i64 x5, .int .i64 x6, .bool x7, .int .u16 x8, .bool x9, .int .u16 x10, .bool x11, .bool x12]) (.agg #[.int .u16 x0, .int .u16 x1, .int .u16 x2, .int .i64 x3, .int .i64 x4, .int .i64 x5, .int .i64 x6, .bool x7, .int .u16 x8, .bool x9, .int .u16 x10, .bool x11, .bool x12])).run Tryz.prog w = .ok true w := by
 rw [eqA26]; simp
theorem eqA78 (d : Nat) (w : World) (x0 y0 : Int) :
 (Op.equalIn (d + 2) 78 (.agg #[.int .u16 x0]) (.agg #[.int .u16 y0])).run Tryz.prog w = .ok (x0 == y0) w := by
 refine eqA_of Tryz.underlying78 (by kernel_rfl) ?_
 exact eqf_last (by rfl) (by go_simp; rfl) (by go_simp; rfl) (by go_simp)
theorem litI {k : IntKind} (W : World) {e : TypeId} (xs : List Int) (a n : Nat) (ha : a = W.heap.size) (hn : n = xs.length) (hm : xs.length ≤ 9223372036854775807) : Kd.C (Kd.int k) (W.alloc (.cells (xs.map (Value.int k)).toArray e)) (some ⟨a, 0, none⟩) n xs := by
 have h := lit_any (Kd.int k) (fun x => [Value.int k x]) (fun _ _ => rfl) W e xs a n ha hn hm
 have e1 : ∀ l : List Int, l.flatMap (fun x => [Value.int k x]) = l.map (Value.int k) := fun l => by
  induction l with
  | nil => rfl
  | cons x l ih => rw [List.flatMap_cons, ih]; rfl
 rwa [e1] at h
theorem litC (W : World) (xs : List S61) (a n : Nat) (ha : a = W.heap.size) (hn : n = xs.length) (hm : xs.length ≤ 9223372036854775807) : Kd.C k61 (W.alloc (.cells (xs.flatMap fun x => [Value.int .i64 x.f0, Value.int .u16 x.f1]).toArray 61)) (some ⟨a, 0, none⟩) n xs :=
 lit_any k61 _ (fun w x => k61_mk w x) W 61 xs a n ha hn hm
theorem drawn_below {w W : World} {nd : Nat} (h : W = w.drewN nd) : Below w.heap.size w W := by rw [h]; exact pw_below_drewN (Below.refl _ _) _
theorem works_c (w : World) : Calls Tryz.prog 38 #[] w fun e w' => e = .returned (.bool true) ∧ Below w.heap.size w w' := by
 have HB := Aside0.mk (Below.refl w.heap.size w)
 have PA := Lib.hid (show ∀ (w : World) (A : Option Addr) (c : Nat), Kd.C (Kd.int .i64) w A 2 [5, 2] → 2 ≤ c → Calls Tryz.prog 68 #[.slice A 2 c] w (fun e w' => e = .returned (.agg #[.int .u16 36]) ∧ Below w.heap.size w w') from fun w A c h hc => perilunelaw07_pending.calls 10 A c [5, 2] 36 w h hc (by kernel_rfl))
 have PB := Lib.hid (show ∀ (w : World) (A : Option Addr) (c : Nat), Kd.C (Kd.int .i64) w A 2 [2, 5] → 2 ≤ c → Calls Tryz.prog 68 #[.slice A 2 c] w (fun e w' => e = .returned (.agg #[.int .u16 36]) ∧ Below w.heap.size w w') from fun w A c h hc => perilunelaw07_pending.calls 10 A c [2, 5] 36 w h hc (by kernel_rfl))
 have PC := Lib.hid (show ∀ (w : World) (A : Option Addr) (c : Nat), Kd.C (Kd.int .i64) w A 1 [5] → 1 ≤ c → Calls Tryz.prog 68 #[.slice A 1 c] w (fun e w' => e = .returned (.agg #[.int .u16 32]) ∧ Below w.heap.size w w') from fun w A c h hc => perilunelaw07_pending.calls 10 A c [5] 32 w h hc (by kernel_rfl))
 have CH := Lib.hid fun (w : World) => interrupt_Choose.calls 0 36 0 0 0 0 0 0 0 false 0 false 0 false false 2 true w (by kernel_rfl)
 have EN := Lib.hid fun (w : World) => Enter_c3 7 0 0 3000 0 0 0 false 0 false 0 false false 36 12388 2 (by decide) (by decide) (by decide) (by decide) (by decide) (by decide) (by decide) w
 rw [show le 36 2 = 32 by decide, show IntKind.u16.wrap 3000 = 3000 by decide, show (12388 : Int) % 32768 = 12388 by decide, show (2048 : Int) + 4 * 2 = 2056 by decide] at EN
 have LE := Lib.hid (show ∀ (w : World) (A : Option Addr) (c : Nat), Kd.C (Kd.int .u16) w A 16 [0, 0, 0, 0, 0, 0, 0, 0, 0, 0, 0, 0, 0, 3000, 0, 12388] → 16 ≤ c → Calls Tryz.prog 39 #[.agg #[.int .u16 0, .int .u16 0, .int .u16 0, .int .i64 2060, .int .i64 0, .int .i64 0, .int .i64 0, .bool false, .int .u16 0, .bool false, .int .u16 0, .bool false, .bool true], .slice A 16 c] w (fun e w' => e = .returned (.agg #[.int .u16 0, .int .u16 0, .int .u16 0, .int .i64 3000, .int .i64 0, .int .i64 0, .int .i64 0, .bool false, .int .u16 0, .bool true, .int .u16 12388, .bool false, .bool false]) ∧ Below w.heap.size w w') from fun w A c h hc => interrupt_Leave.calls 0 0 0 2060 0 0 0 false 0 false 0 false true A c [0, 0, 0, 0, 0, 0, 0, 0, 0, 0, 0, 0, 0, 3000, 0, 12388] 0 0 0 3000 0 0 0 false 0 true 12388 false false w h hc (by kernel_rfl))
 have CE := Lib.hid (show ∀ (w : World) (A B : Option Addr) (c d : Nat), Kd.C k61 w A 2 [⟨13, 3000⟩, ⟨15, 12388⟩] → 2 ≤ c → Kd.C k61 w B 2 [⟨13, 3000⟩, ⟨15, 12388⟩] → 2 ≤ d → Calls Tryz.prog 40 #[.slice A 2 c, .slice B 2 d] w (fun e w' => e = .returned (.bool true) ∧ Drawn0 w w') from fun w A B c d h hc k hd => perilunelaw07_cells.calls 20 A c [⟨13, 3000⟩, ⟨15, 12388⟩] B d [⟨13, 3000⟩, ⟨15, 12388⟩] true w h hc k hd (by kernel_rfl))
 go_enter Tryz.func38, Tryz.ntmps38
 go_upto_region 3 with (first | (go_at_call 68; (with_reducible refine at_args #[.slice _ 2 2] ?_); (with_reducible refine (PA.out _ _ 2 ?hlPA (by decide)).mono ?_); (case hlPA => exact (litI _ [5, 2] _ _ (by first | rfl | (simp; done)) rfl (by decide))); rintro e w' ⟨rfl, hbz⟩; have HBn := Aside0.mk (below_step (by repeat (first | (with_reducible first | exact HB.out | apply below_alloc | apply pw_below_drewN | apply below_drew1) | exact HB.out)) hbz); clear HB; have HB := HBn; clear HBn; clear hbz) | (go_at_call 68; (with_reducible refine at_args #[.slice _ 2 2] ?_); (with_reducible refine (PB.out _ _ 2 ?hlPB (by decide)).mono ?_); (case hlPB => exact (litI _ [2, 5] _ _ (by first | rfl | (simp; done)) rfl (by decide))); rintro e w' ⟨rfl, hbz⟩; have HBn := Aside0.mk (below_step (by repeat (first | (with_reducible first | exact HB.out | apply below_alloc | apply pw_below_drewN | apply below_drew1) | exact HB.out)) hbz); clear HB; have HB := HBn; clear HBn; clear hbz) | (go_at_call 67; (with_reducible refine at_args #[.agg #[.int .u16 36], .agg #[.int .u16 0, .int .u16 0, .int .u16 0, .int .i64 0, .int .i64 0, .int .i64 0, .int .i64 0, .bool false, .int .u16 0, .bool false, .int .u16 0, .bool false, .bool false]] ?_); (with_reducible refine (CH.out _).mono ?_); rintro e w' ⟨rfl, hbz⟩; have HBn := Aside0.mk (below_step (by repeat (first | (with_reducible first | exact HB.out | apply below_alloc | apply pw_below_drewN | apply below_drew1) | exact HB.out)) hbz); clear HB; have HB := HBn; clear HBn; clear hbz) | (go_at_call 37; (with_reducible refine at_args #[.agg #[.int .u16 7, .int .u16 0, .int .u16 0, .int .i64 3000, .int .i64 0, .int .i64 0, .int .i64 0, .bool false, .int .u16 0, .bool false, .int .u16 0, .bool false, .bool false], .agg #[.int .u16 36], .int .u16 12388] ?_); (with_reducible refine (EN.out _).mono ?_); rintro e we ⟨v, rfl, hR, hbz⟩; obtain ⟨A, c, rfl, hc, hC⟩ := Kd.R_reads hR; have RC := Aside0.mk hC; clear hR hC; have HBn := Aside0.mk (below_step (by repeat (first | (with_reducible first | exact HB.out | apply below_alloc | apply pw_below_drewN | apply below_drew1) | exact HB.out)) hbz); clear HB; have HB := HBn; clear HBn; clear hbz))
 clear PA PB CH EN
 have K3a : Aside0 ((World.heap (((we.alloc (.cells #[.int .u16 7, .int .u16 0, .int .u16 0, .int .i64 2056, .int .i64 0, .int .i64 0, .int .i64 0, .bool false, .int .u16 0, .bool false, .int .u16 0, .bool false, .bool true] 26)).alloc (.cells #[.int .u16 32] 78)).alloc (.cells #[.int .u16 0, .int .u16 0, .int .u16 0, .int .u16 0, .int .u16 0, .int .u16 0, .int .u16 0, .int .u16 0, .int .u16 0, .int .u16 0, .int .u16 0, .int .u16 0, .int .u16 0, .int .u16 3000, .int .u16 0, .int .u16 12388] 24)))[we.heap.size]? = some (.cells #[.int .u16 7, .int .u16 0, .int .u16 0, .int .i64 2056, .int .i64 0, .int .i64 0, .int .i64 0, .bool false, .int .u16 0, .bool false, .int .u16 0, .bool false, .bool true] 26 (0, 0))) := ⟨blk_alloc (blk_alloc (blk_new we _) _) _⟩
 have K4a : Aside0 ((World.heap (((we.alloc (.cells #[.int .u16 7, .int .u16 0, .int .u16 0, .int .i64 2056, .int .i64 0, .int .i64 0, .int .i64 0, .bool false, .int .u16 0, .bool false, .int .u16 0, .bool false, .bool true] 26)).alloc (.cells #[.int .u16 32] 78)).alloc (.cells #[.int .u16 0, .int .u16 0, .int .u16 0, .int .u16 0, .int .u16 0, .int .u16 0, .int .u16 0, .int .u16 0, .int .u16 0, .int .u16 0, .int .u16 0, .int .u16 0, .int .u16 0, .int .u16 3000, .int .u16 0, .int .u16 12388] 24)))[we.heap.size + 1]? = some (.cells #[.int .u16 32] 78 (0, 0))) := ⟨by have h := blk_alloc (blk_new (we.alloc (.cells #[.int .u16 7, .int .u16 0, .int .u16 0, .int .i64 2056, .int .i64 0, .int .i64 0, .int .i64 0, .bool false, .int .u16 0, .bool false, .int .u16 0, .bool false, .bool true] 26)) (.cells #[.int .u16 32] 78)) (.cells #[.int .u16 0, .int .u16 0, .int .u16 0, .int .u16 0, .int .u16 0, .int .u16 0, .int .u16 0, .int .u16 0, .int .u16 0, .int .u16 0, .int .u16 0, .int .u16 0, .int .u16 0, .int .u16 3000, .int .u16 0, .int .u16 12388] 24); rw [World.size_alloc] at h; exact h⟩
 go_upto_region 4 with (go_at_call 39; (with_reducible refine at_args #[.agg #[.int .u16 0, .int .u16 0, .int .u16 0, .int .i64 2060, .int .i64 0, .int .i64 0, .int .i64 0, .bool false, .int .u16 0, .bool false, .int .u16 0, .bool false, .bool true], .slice _ 16 16] ?_); (with_reducible refine (LE.out _ _ 16 ?hlL (by decide)).mono ?_); (case hlL => exact (litI _ [0, 0, 0, 0, 0, 0, 0, 0, 0, 0, 0, 0, 0, 3000, 0, 12388] _ _ (by first | rfl | (simp; done)) rfl (by decide))); rintro e wl ⟨rfl, hbz⟩; have K3 := Aside0.mk (blk_below K3a.out hbz); have K4 := Aside0.mk (blk_below K4a.out hbz); replace RC := Aside0.mk (Kd.C_below (Kd.C_alloc (Kd.C_alloc (Kd.C_alloc RC.out _) _) _) hbz); clear K3a K4a; have HBn := Aside0.mk (below_step (by repeat (first | (with_reducible first | exact HB.out | apply below_alloc | apply pw_below_drewN | apply below_drew1) | exact HB.out)) hbz); clear HB; have HB := HBn; clear HBn; clear hbz)
 have n3 : Aside0 ((World.heap (wl.alloc (.cells #[.int .u16 0, .int .u16 0, .int .u16 0, .int .i64 3000, .int .i64 0, .int .i64 0, .int .i64 0, .bool false, .int .u16 0, .bool true, .int .u16 12388, .bool false, .bool false] 26)))[we.heap.size]? = some (.cells #[.int .u16 7, .int .u16 0, .int .u16 0, .int .i64 2056, .int .i64 0, .int .i64 0, .int .i64 0, .bool false, .int .u16 0, .bool false, .int .u16 0, .bool false, .bool true] 26 (0, 0))) := ⟨blk_alloc K3.out _⟩
 have n4 : Aside0 ((World.heap (wl.alloc (.cells #[.int .u16 0, .int .u16 0, .int .u16 0, .int .i64 3000, .int .i64 0, .int .i64 0, .int .i64 0, .bool false, .int .u16 0, .bool true, .int .u16 12388, .bool false, .bool false] 26)))[we.heap.size + 1]? = some (.cells #[.int .u16 32] 78 (0, 0))) := ⟨blk_alloc K4.out _⟩
 have n8 : Aside0 ((World.heap (wl.alloc (.cells #[.int .u16 0, .int .u16 0, .int .u16 0, .int .i64 3000, .int .i64 0, .int .i64 0, .int .i64 0, .bool false, .int .u16 0, .bool true, .int .u16 12388, .bool false, .bool false] 26)))[wl.heap.size]? = some (.cells #[.int .u16 0, .int .u16 0, .int .u16 0, .int .i64 3000, .int .i64 0, .int .i64 0, .int .i64 0, .bool false, .int .u16 0, .bool true, .int .u16 12388, .bool false, .bool false] 26 (0, 0))) := ⟨blk_new wl _⟩
 have nR : Aside0 (Kd.C k61 (wl.alloc (.cells #[.int .u16 0, .int .u16 0, .int .u16 0, .int .i64 3000, .int .i64 0, .int .i64 0, .int .i64 0, .bool false, .int .u16 0, .bool true, .int .u16 12388, .bool false, .bool false] 26)) A 2 [⟨13, 3000⟩, ⟨15, 12388⟩]) := ⟨Kd.C_alloc RC.out _⟩
 have nB : Aside0 (Below w.heap.size w (wl.alloc (.cells #[.int .u16 0, .int .u16 0, .int .u16 0, .int .i64 3000, .int .i64 0, .int .i64 0, .int .i64 0, .bool false, .int .u16 0, .bool true, .int .u16 12388, .bool false, .bool false] 26))) := ⟨below_alloc HB.out _⟩
 clear K3 K4 RC HB LE
 generalize wl.alloc (.cells #[.int .u16 0, .int .u16 0, .int .u16 0, .int .i64 3000, .int .i64 0, .int .i64 0, .int .i64 0, .bool false, .int .u16 0, .bool true, .int .u16 12388, .bool false, .bool false] 26) = wr at n3 n4 n8 nR nB ⊢
 obtain ⟨b3, hb3⟩ : ∃ x, we.heap.size = x := ⟨_, rfl⟩
 obtain ⟨b8, hb8⟩ : ∃ x, wl.heap.size = x := ⟨_, rfl⟩
 rw [hb3] at n3 n4 ⊢
 rw [hb8] at n8 ⊢
 clear hb3 hb8
 have RC := nR
 have HB := nB
 clear nR nB
 have x0 : wr.cell? ⟨b3, 0, none⟩ = some (.int .u16 7) := (blk_cell n3.out 0).trans rfl
 have x1 : wr.cell? ⟨b3, 1, none⟩ = some (.int .u16 0) := (blk_cell n3.out 1).trans rfl
 have x2 : wr.cell? ⟨b3, 2, none⟩ = some (.int .u16 0) := (blk_cell n3.out 2).trans rfl
 have x3 : wr.cell? ⟨b3, 3, none⟩ = some (.int .i64 2056) := (blk_cell n3.out 3).trans rfl
 have x4 : wr.cell? ⟨b3, 4, none⟩ = some (.int .i64 0) := (blk_cell n3.out 4).trans rfl
 have x5 : wr.cell? ⟨b3, 5, none⟩ = some (.int .i64 0) := (blk_cell n3.out 5).trans rfl
 have x6 : wr.cell? ⟨b3, 6, none⟩ = some (.int .i64 0) := (blk_cell n3.out 6).trans rfl
 have x7 : wr.cell? ⟨b3, 7, none⟩ = some (.bool false) := (blk_cell n3.out 7).trans rfl
 have x8 : wr.cell? ⟨b3, 8, none⟩ = some (.int .u16 0) := (blk_cell n3.out 8).trans rfl
 have x9 : wr.cell? ⟨b3, 9, none⟩ = some (.bool false) := (blk_cell n3.out 9).trans rfl
 have x10 : wr.cell? ⟨b3, 10, none⟩ = some (.int .u16 0) := (blk_cell n3.out 10).trans rfl
 have x11 : wr.cell? ⟨b3, 11, none⟩ = some (.bool false) := (blk_cell n3.out 11).trans rfl
 have x12 : wr.cell? ⟨b3, 12, none⟩ = some (.bool true) := (blk_cell n3.out 12).trans rfl
 have u0 : wr.cell? ⟨b3 + 1, 0, none⟩ = some (.int .u16 32) := (blk_cell n4.out 0).trans rfl
 have y0 : wr.cell? ⟨b8, 0, none⟩ = some (.int .u16 0) := (blk_cell n8.out 0).trans rfl
 have y1 : wr.cell? ⟨b8, 1, none⟩ = some (.int .u16 0) := (blk_cell n8.out 1).trans rfl
 have y2 : wr.cell? ⟨b8, 2, none⟩ = some (.int .u16 0) := (blk_cell n8.out 2).trans rfl
 have y3 : wr.cell? ⟨b8, 3, none⟩ = some (.int .i64 3000) := (blk_cell n8.out 3).trans rfl
 have y4 : wr.cell? ⟨b8, 4, none⟩ = some (.int .i64 0) := (blk_cell n8.out 4).trans rfl
 have y5 : wr.cell? ⟨b8, 5, none⟩ = some (.int .i64 0) := (blk_cell n8.out 5).trans rfl
 have y6 : wr.cell? ⟨b8, 6, none⟩ = some (.int .i64 0) := (blk_cell n8.out 6).trans rfl
 have y7 : wr.cell? ⟨b8, 7, none⟩ = some (.bool false) := (blk_cell n8.out 7).trans rfl
 have y8 : wr.cell? ⟨b8, 8, none⟩ = some (.int .u16 0) := (blk_cell n8.out 8).trans rfl
 have y9 : wr.cell? ⟨b8, 9, none⟩ = some (.bool true) := (blk_cell n8.out 9).trans rfl
 have y10 : wr.cell? ⟨b8, 10, none⟩ = some (.int .u16 12388) := (blk_cell n8.out 10).trans rfl
 have y11 : wr.cell? ⟨b8, 11, none⟩ = some (.bool false) := (blk_cell n8.out 11).trans rfl
 have y12 : wr.cell? ⟨b8, 12, none⟩ = some (.bool false) := (blk_cell n8.out 12).trans rfl
 clear n3 n4 n8
 have h26 := fun d w => eqS26 d w 7 0 0 2056 0 0 0 false 0 false 0 false true
 have h26b := fun d w => eqS26 d w 0 0 0 3000 0 0 0 false 0 true 12388 false false
 have h28 := fun d w => eqA78 d w 32 32
 refine start_ (n := 37) (S := fun w' => w'.cell? ⟨b3, 0, none⟩ = some (.int .u16 7) ∧ w'.cell? ⟨b3, 1, none⟩ = some (.int .u16 0) ∧ w'.cell? ⟨b3, 2, none⟩ = some (.int .u16 0) ∧ w'.cell? ⟨b3, 3, none⟩ = some (.int .i64 2056) ∧ w'.cell? ⟨b3, 4, none⟩ = some (.int .i64 0) ∧ w'.cell? ⟨b3, 5, none⟩ = some (.int .i64 0) ∧ w'.cell? ⟨b3, 6, none⟩ = some (.int .i64 0) ∧ w'.cell? ⟨b3, 7, none⟩ = some (.bool false) ∧ w'.cell? ⟨b3, 8, none⟩ = some (.int .u16 0) ∧ w'.cell? ⟨b3, 9, none⟩ = some (.bool false) ∧ w'.cell? ⟨b3, 10, none⟩ = some (.int .u16 0) ∧ w'.cell? ⟨b3, 11, none⟩ = some (.bool false) ∧ w'.cell? ⟨b3, 12, none⟩ = some (.bool true) ∧ w'.cell? ⟨b3 + 1, 0, none⟩ = some (.int .u16 32) ∧ w'.cell? ⟨b8, 0, none⟩ = some (.int .u16 0) ∧ w'.cell? ⟨b8, 1, none⟩ = some (.int .u16 0) ∧ w'.cell? ⟨b8, 2, none⟩ = some (.int .u16 0) ∧ w'.cell? ⟨b8, 3, none⟩ = some (.int .i64 3000) ∧ w'.cell? ⟨b8, 4, none⟩ = some (.int .i64 0) ∧ w'.cell? ⟨b8, 5, none⟩ = some (.int .i64 0) ∧ w'.cell? ⟨b8, 6, none⟩ = some (.int .i64 0) ∧ w'.cell? ⟨b8, 7, none⟩ = some (.bool false) ∧ w'.cell? ⟨b8, 8, none⟩ = some (.int .u16 0) ∧ w'.cell? ⟨b8, 9, none⟩ = some (.bool true) ∧ w'.cell? ⟨b8, 10, none⟩ = some (.int .u16 12388) ∧ w'.cell? ⟨b8, 11, none⟩ = some (.bool false) ∧ w'.cell? ⟨b8, 12, none⟩ = some (.bool false)) (ds := []) #[false, false, false, false, false, false, false, false, false, false, false, false, false, false, false, false, false, false, false, false, false, false, false, false, false, false, false, false, false, false, false, false, false, false, false, false, false] (by kernel_rfl) rfl rfl ⟨x0, x1, x2, x3, x4, x5, x6, x7, x8, x9, x10, x11, x12, u0, y0, y1, y2, y3, y4, y5, y6, y7, y8, y9, y10, y11, y12⟩ (fun hHeld => ?_)
 replace RC : Aside0 (Kd.C k61 wr.drew A 2 [⟨13, 3000⟩, ⟨15, 12388⟩]) := ⟨Kd.C_drew RC.out⟩
 replace HB : Aside0 (Below w.heap.size w wr.drew) := ⟨below_drew1 HB.out⟩
 change wr.drew.cell? _ = _ at x0
 change wr.drew.cell? _ = _ at x1
 change wr.drew.cell? _ = _ at x2
 change wr.drew.cell? _ = _ at x3
 change wr.drew.cell? _ = _ at x4
 change wr.drew.cell? _ = _ at x5
 change wr.drew.cell? _ = _ at x6
 change wr.drew.cell? _ = _ at x7
 change wr.drew.cell? _ = _ at x8
 change wr.drew.cell? _ = _ at x9
 change wr.drew.cell? _ = _ at x10
 change wr.drew.cell? _ = _ at x11
 change wr.drew.cell? _ = _ at x12
 change wr.drew.cell? _ = _ at u0
 change wr.drew.cell? _ = _ at y0
 change wr.drew.cell? _ = _ at y1
 change wr.drew.cell? _ = _ at y2
 change wr.drew.cell? _ = _ at y3
 change wr.drew.cell? _ = _ at y4
 change wr.drew.cell? _ = _ at y5
 change wr.drew.cell? _ = _ at y6
 change wr.drew.cell? _ = _ at y7
 change wr.drew.cell? _ = _ at y8
 change wr.drew.cell? _ = _ at y9
 change wr.drew.cell? _ = _ at y10
 change wr.drew.cell? _ = _ at y11
 change wr.drew.cell? _ = _ at y12
 generalize wr.drew = wd at RC HB x0 x1 x2 x3 x4 x5 x6 x7 x8 x9 x10 x11 x12 u0 y0 y1 y2 y3 y4 y5 y6 y7 y8 y9 y10 y11 y12 hHeld ⊢
 refine pvq_ 0 (some 29) rfl rfl ?_
 refine pvq_ 1 (some 30) rfl rfl ?_
 refine pvq_ 2 (some 31) rfl rfl ?_
 refine pvq_ 3 (some 32) rfl rfl ?_
 refine pvq_ 4 (some 33) rfl rfl ?_
 refine pvq_ 5 (some 34) rfl rfl ?_
 refine pvq_ 6 (some 35) rfl rfl ?_
 refine pvq_ 7 (some 36) rfl rfl ?_
 refine pvq_ 8 (some 37) rfl rfl ?_
 refine pvq_ 9 (some 38) rfl rfl ?_
 refine pvq_ 11 (some 40) rfl rfl ?_
 refine tkq_ 10 (some 39) rfl rfl hHeld ?_
 refine pvq_ 12 (some 41) rfl rfl ?_
 refine pvq_ 13 (some 42) rfl rfl ?_
 refine pvq_ 14 (some 43) rfl rfl ?_
 refine tkq_ 15 (some 44) rfl rfl hHeld ?_
 refine onq_ 16 (some 45) rfl rfl (fun K hK => ?_)
 refine value_ (w1 := ?_) (v := ?_) (by rfl) rfl ?_ ?_
 rotate_left 2
 · go_simp
   constructor
   · rfl
   · rfl
 have C45 := Aside0.mk (show Kd.C (Kd.int .i64) (wd.alloc (.cells #[.int .i64 5] 3)) (some ⟨wd.heap.size, 0, none⟩) 1 [5] from litI wd [5] wd.heap.size 1 rfl rfl (by decide))
 have hbz := below_alloc (Below.refl wd.heap.size wd) (.cells #[.int .i64 5] 3)
 replace x0 := (hbz.cell (World.block_lt_of_cell? _ _ x0)).trans x0
 replace x1 := (hbz.cell (World.block_lt_of_cell? _ _ x1)).trans x1
 replace x2 := (hbz.cell (World.block_lt_of_cell? _ _ x2)).trans x2
 replace x3 := (hbz.cell (World.block_lt_of_cell? _ _ x3)).trans x3
 replace x4 := (hbz.cell (World.block_lt_of_cell? _ _ x4)).trans x4
 replace x5 := (hbz.cell (World.block_lt_of_cell? _ _ x5)).trans x5
 replace x6 := (hbz.cell (World.block_lt_of_cell? _ _ x6)).trans x6
 replace x7 := (hbz.cell (World.block_lt_of_cell? _ _ x7)).trans x7
 replace x8 := (hbz.cell (World.block_lt_of_cell? _ _ x8)).trans x8
 replace x9 := (hbz.cell (World.block_lt_of_cell? _ _ x9)).trans x9
 replace x10 := (hbz.cell (World.block_lt_of_cell? _ _ x10)).trans x10
 replace x11 := (hbz.cell (World.block_lt_of_cell? _ _ x11)).trans x11
 replace x12 := (hbz.cell (World.block_lt_of_cell? _ _ x12)).trans x12
 replace u0 := (hbz.cell (World.block_lt_of_cell? _ _ u0)).trans u0
 replace y0 := (hbz.cell (World.block_lt_of_cell? _ _ y0)).trans y0
 replace y1 := (hbz.cell (World.block_lt_of_cell? _ _ y1)).trans y1
 replace y2 := (hbz.cell (World.block_lt_of_cell? _ _ y2)).trans y2
 replace y3 := (hbz.cell (World.block_lt_of_cell? _ _ y3)).trans y3
 replace y4 := (hbz.cell (World.block_lt_of_cell? _ _ y4)).trans y4
 replace y5 := (hbz.cell (World.block_lt_of_cell? _ _ y5)).trans y5
 replace y6 := (hbz.cell (World.block_lt_of_cell? _ _ y6)).trans y6
 replace y7 := (hbz.cell (World.block_lt_of_cell? _ _ y7)).trans y7
 replace y8 := (hbz.cell (World.block_lt_of_cell? _ _ y8)).trans y8
 replace y9 := (hbz.cell (World.block_lt_of_cell? _ _ y9)).trans y9
 replace y10 := (hbz.cell (World.block_lt_of_cell? _ _ y10)).trans y10
 replace y11 := (hbz.cell (World.block_lt_of_cell? _ _ y11)).trans y11
 replace y12 := (hbz.cell (World.block_lt_of_cell? _ _ y12)).trans y12
 replace RC := Aside0.mk (Kd.C_below RC.out hbz)
 have HBn := Aside0.mk (below_step (by repeat (first | (with_reducible first | exact HB.out | apply below_alloc | apply pw_below_drewN | apply below_drew1) | exact HB.out)) hbz)
 clear HB
 have HB := HBn
 clear HBn
 clear hbz
 obtain ⟨b45, hb45⟩ : ∃ b, wd.heap.size = b := ⟨_, rfl⟩
 rw [hb45] at C45 ⊢
 clear hb45
 generalize wd.alloc (.cells #[.int .i64 5] 3) = w1 at C45 RC HB x0 x1 x2 x3 x4 x5 x6 x7 x8 x9 x10 x11 x12 u0 y0 y1 y2 y3 y4 y5 y6 y7 y8 y9 y10 y11 y12 ⊢
 refine hK.out _ _ ⟨x0, x1, x2, x3, x4, x5, x6, x7, x8, x9, x10, x11, x12, u0, y0, y1, y2, y3, y4, y5, y6, y7, y8, y9, y10, y11, y12⟩ (fun hHeld => ?_)
 clear hK K
 refine nmq_ (some 45) ?_
 refine onq_ 17 (some 46) rfl rfl (fun K hK => ?_)
 refine goq_ Tryz.func68 #[.slice (some ⟨b45, 0, none⟩) 1 1] ?_
 with_reducible refine (PC.out _ _ 1 C45.out (by decide)).mono ?_
 rintro e w2 ⟨rfl, hbz⟩
 refine ⟨_, rfl, ?_⟩
 clear C45
 replace x0 := (hbz.cell (World.block_lt_of_cell? _ _ x0)).trans x0
 replace x1 := (hbz.cell (World.block_lt_of_cell? _ _ x1)).trans x1
 replace x2 := (hbz.cell (World.block_lt_of_cell? _ _ x2)).trans x2
 replace x3 := (hbz.cell (World.block_lt_of_cell? _ _ x3)).trans x3
 replace x4 := (hbz.cell (World.block_lt_of_cell? _ _ x4)).trans x4
 replace x5 := (hbz.cell (World.block_lt_of_cell? _ _ x5)).trans x5
 replace x6 := (hbz.cell (World.block_lt_of_cell? _ _ x6)).trans x6
 replace x7 := (hbz.cell (World.block_lt_of_cell? _ _ x7)).trans x7
 replace x8 := (hbz.cell (World.block_lt_of_cell? _ _ x8)).trans x8
 replace x9 := (hbz.cell (World.block_lt_of_cell? _ _ x9)).trans x9
 replace x10 := (hbz.cell (World.block_lt_of_cell? _ _ x10)).trans x10
 replace x11 := (hbz.cell (World.block_lt_of_cell? _ _ x11)).trans x11
 replace x12 := (hbz.cell (World.block_lt_of_cell? _ _ x12)).trans x12
 replace u0 := (hbz.cell (World.block_lt_of_cell? _ _ u0)).trans u0
 replace y0 := (hbz.cell (World.block_lt_of_cell? _ _ y0)).trans y0
 replace y1 := (hbz.cell (World.block_lt_of_cell? _ _ y1)).trans y1
 replace y2 := (hbz.cell (World.block_lt_of_cell? _ _ y2)).trans y2
 replace y3 := (hbz.cell (World.block_lt_of_cell? _ _ y3)).trans y3
 replace y4 := (hbz.cell (World.block_lt_of_cell? _ _ y4)).trans y4
 replace y5 := (hbz.cell (World.block_lt_of_cell? _ _ y5)).trans y5
 replace y6 := (hbz.cell (World.block_lt_of_cell? _ _ y6)).trans y6
 replace y7 := (hbz.cell (World.block_lt_of_cell? _ _ y7)).trans y7
 replace y8 := (hbz.cell (World.block_lt_of_cell? _ _ y8)).trans y8
 replace y9 := (hbz.cell (World.block_lt_of_cell? _ _ y9)).trans y9
 replace y10 := (hbz.cell (World.block_lt_of_cell? _ _ y10)).trans y10
 replace y11 := (hbz.cell (World.block_lt_of_cell? _ _ y11)).trans y11
 replace y12 := (hbz.cell (World.block_lt_of_cell? _ _ y12)).trans y12
 replace RC := Aside0.mk (Kd.C_below RC.out hbz)
 have HBn := Aside0.mk (below_step (by repeat (first | (with_reducible first | exact HB.out | apply below_alloc | apply pw_below_drewN | apply below_drew1) | exact HB.out)) hbz)
 clear HB
 have HB := HBn
 clear HBn
 clear hbz
 refine hK.out _ _ ⟨x0, x1, x2, x3, x4, x5, x6, x7, x8, x9, x10, x11, x12, u0, y0, y1, y2, y3, y4, y5, y6, y7, y8, y9, y10, y11, y12⟩ (fun hHeld => ?_)
 clear hK K
 refine nmq_ (some 46) ?_
 refine pvq_ 18 (some 47) rfl rfl ?_
 refine pvq_ 19 (some 48) rfl rfl ?_
 refine pvq_ 20 (some 49) rfl rfl ?_
 refine pvq_ 21 (some 50) rfl rfl ?_
 refine pvq_ 22 (some 51) rfl rfl ?_
 refine pvq_ 23 (some 52) rfl rfl ?_
 refine onq_ 24 (some 53) rfl rfl (fun K hK => ?_)
 refine value_ (w1 := ?_) (v := ?_) (by rfl) rfl ?_ ?_
 rotate_left 2
 · go_simp
   constructor
   · rfl
   · rfl
 have C53 := Aside0.mk (show Kd.C k61 (w2.alloc (.cells #[.int .i64 13, .int .u16 3000, .int .i64 15, .int .u16 12388] 61)) (some ⟨w2.heap.size, 0, none⟩) 2 [⟨13, 3000⟩, ⟨15, 12388⟩] from litC w2 [⟨13, 3000⟩, ⟨15, 12388⟩] w2.heap.size 2 rfl rfl (by decide))
 have hbz := below_alloc (Below.refl w2.heap.size w2) (.cells #[.int .i64 13, .int .u16 3000, .int .i64 15, .int .u16 12388] 61)
 replace x0 := (hbz.cell (World.block_lt_of_cell? _ _ x0)).trans x0
 replace x1 := (hbz.cell (World.block_lt_of_cell? _ _ x1)).trans x1
 replace x2 := (hbz.cell (World.block_lt_of_cell? _ _ x2)).trans x2
 replace x3 := (hbz.cell (World.block_lt_of_cell? _ _ x3)).trans x3
 replace x4 := (hbz.cell (World.block_lt_of_cell? _ _ x4)).trans x4
 replace x5 := (hbz.cell (World.block_lt_of_cell? _ _ x5)).trans x5
 replace x6 := (hbz.cell (World.block_lt_of_cell? _ _ x6)).trans x6
 replace x7 := (hbz.cell (World.block_lt_of_cell? _ _ x7)).trans x7
 replace x8 := (hbz.cell (World.block_lt_of_cell? _ _ x8)).trans x8
 replace x9 := (hbz.cell (World.block_lt_of_cell? _ _ x9)).trans x9
 replace x10 := (hbz.cell (World.block_lt_of_cell? _ _ x10)).trans x10
 replace x11 := (hbz.cell (World.block_lt_of_cell? _ _ x11)).trans x11
 replace x12 := (hbz.cell (World.block_lt_of_cell? _ _ x12)).trans x12
 replace u0 := (hbz.cell (World.block_lt_of_cell? _ _ u0)).trans u0
 replace y0 := (hbz.cell (World.block_lt_of_cell? _ _ y0)).trans y0
 replace y1 := (hbz.cell (World.block_lt_of_cell? _ _ y1)).trans y1
 replace y2 := (hbz.cell (World.block_lt_of_cell? _ _ y2)).trans y2
 replace y3 := (hbz.cell (World.block_lt_of_cell? _ _ y3)).trans y3
 replace y4 := (hbz.cell (World.block_lt_of_cell? _ _ y4)).trans y4
 replace y5 := (hbz.cell (World.block_lt_of_cell? _ _ y5)).trans y5
 replace y6 := (hbz.cell (World.block_lt_of_cell? _ _ y6)).trans y6
 replace y7 := (hbz.cell (World.block_lt_of_cell? _ _ y7)).trans y7
 replace y8 := (hbz.cell (World.block_lt_of_cell? _ _ y8)).trans y8
 replace y9 := (hbz.cell (World.block_lt_of_cell? _ _ y9)).trans y9
 replace y10 := (hbz.cell (World.block_lt_of_cell? _ _ y10)).trans y10
 replace y11 := (hbz.cell (World.block_lt_of_cell? _ _ y11)).trans y11
 replace y12 := (hbz.cell (World.block_lt_of_cell? _ _ y12)).trans y12
 replace RC := Aside0.mk (Kd.C_below RC.out hbz)
 have HBn := Aside0.mk (below_step (by repeat (first | (with_reducible first | exact HB.out | apply below_alloc | apply pw_below_drewN | apply below_drew1) | exact HB.out)) hbz)
 clear HB
 have HB := HBn
 clear HBn
 clear hbz
 obtain ⟨b53, hb53⟩ : ∃ b, w2.heap.size = b := ⟨_, rfl⟩
 rw [hb53] at C53 ⊢
 clear hb53
 generalize w2.alloc (.cells #[.int .i64 13, .int .u16 3000, .int .i64 15, .int .u16 12388] 61) = w3 at C53 RC HB x0 x1 x2 x3 x4 x5 x6 x7 x8 x9 x10 x11 x12 u0 y0 y1 y2 y3 y4 y5 y6 y7 y8 y9 y10 y11 y12 ⊢
 refine hK.out _ _ ⟨x0, x1, x2, x3, x4, x5, x6, x7, x8, x9, x10, x11, x12, u0, y0, y1, y2, y3, y4, y5, y6, y7, y8, y9, y10, y11, y12⟩ (fun hHeld => ?_)
 clear hK K
 refine nmq_ (some 53) ?_
 refine onq_ 25 (some 54) rfl rfl (fun K hK => ?_)
 refine goq_ Tryz.func40 #[.slice A 2 c, .slice (some ⟨b53, 0, none⟩) 2 2] ?_
 with_reducible refine (CE.out _ _ _ _ _ RC.out hc C53.out (by decide)).mono ?_
 rintro e w4 ⟨rfl, ⟨nd, hd⟩⟩
 refine ⟨_, rfl, ?_⟩
 have hbz := drawn_below hd
 clear C53 hd
 replace x0 := (hbz.cell (World.block_lt_of_cell? _ _ x0)).trans x0
 replace x1 := (hbz.cell (World.block_lt_of_cell? _ _ x1)).trans x1
 replace x2 := (hbz.cell (World.block_lt_of_cell? _ _ x2)).trans x2
 replace x3 := (hbz.cell (World.block_lt_of_cell? _ _ x3)).trans x3
 replace x4 := (hbz.cell (World.block_lt_of_cell? _ _ x4)).trans x4
 replace x5 := (hbz.cell (World.block_lt_of_cell? _ _ x5)).trans x5
 replace x6 := (hbz.cell (World.block_lt_of_cell? _ _ x6)).trans x6
 replace x7 := (hbz.cell (World.block_lt_of_cell? _ _ x7)).trans x7
 replace x8 := (hbz.cell (World.block_lt_of_cell? _ _ x8)).trans x8
 replace x9 := (hbz.cell (World.block_lt_of_cell? _ _ x9)).trans x9
 replace x10 := (hbz.cell (World.block_lt_of_cell? _ _ x10)).trans x10
 replace x11 := (hbz.cell (World.block_lt_of_cell? _ _ x11)).trans x11
 replace x12 := (hbz.cell (World.block_lt_of_cell? _ _ x12)).trans x12
 replace u0 := (hbz.cell (World.block_lt_of_cell? _ _ u0)).trans u0
 replace y0 := (hbz.cell (World.block_lt_of_cell? _ _ y0)).trans y0
 replace y1 := (hbz.cell (World.block_lt_of_cell? _ _ y1)).trans y1
 replace y2 := (hbz.cell (World.block_lt_of_cell? _ _ y2)).trans y2
 replace y3 := (hbz.cell (World.block_lt_of_cell? _ _ y3)).trans y3
 replace y4 := (hbz.cell (World.block_lt_of_cell? _ _ y4)).trans y4
 replace y5 := (hbz.cell (World.block_lt_of_cell? _ _ y5)).trans y5
 replace y6 := (hbz.cell (World.block_lt_of_cell? _ _ y6)).trans y6
 replace y7 := (hbz.cell (World.block_lt_of_cell? _ _ y7)).trans y7
 replace y8 := (hbz.cell (World.block_lt_of_cell? _ _ y8)).trans y8
 replace y9 := (hbz.cell (World.block_lt_of_cell? _ _ y9)).trans y9
 replace y10 := (hbz.cell (World.block_lt_of_cell? _ _ y10)).trans y10
 replace y11 := (hbz.cell (World.block_lt_of_cell? _ _ y11)).trans y11
 replace y12 := (hbz.cell (World.block_lt_of_cell? _ _ y12)).trans y12
 replace RC := Aside0.mk (Kd.C_below RC.out hbz)
 have HBn := Aside0.mk (below_step (by repeat (first | (with_reducible first | exact HB.out | apply below_alloc | apply pw_below_drewN | apply below_drew1) | exact HB.out)) hbz)
 clear HB
 have HB := HBn
 clear HBn
 clear hbz
 refine hK.out _ _ ⟨x0, x1, x2, x3, x4, x5, x6, x7, x8, x9, x10, x11, x12, u0, y0, y1, y2, y3, y4, y5, y6, y7, y8, y9, y10, y11, y12⟩ (fun hHeld => ?_)
 clear hK K
 refine nmq_ (some 54) ?_
 refine pvq_ 26 (some 55) rfl rfl ?_
 refine pvq_ 27 (some 56) rfl rfl ?_
 refine pvq_ 28 (some 57) rfl rfl ?_
 refine pvq_ 29 (some 58) rfl rfl ?_
 refine pvq_ 30 (some 59) rfl rfl ?_
 refine pvq_ 31 (some 60) rfl rfl ?_
 refine pvq_ 33 (some 62) rfl rfl ?_
 refine tkq_ 32 (some 61) rfl rfl hHeld ?_
 refine pvq_ 34 (some 63) rfl rfl ?_
 refine pvq_ 35 (some 64) rfl rfl ?_
 refine pvq_ 36 (some 0) rfl rfl ?_
 refine done_ (by kernel_rfl) ?_
 go_wp2
 go_ret
 exact ⟨rfl, by repeat (first | (with_reducible first | exact HB.out | apply below_alloc | apply pw_below_drewN | apply below_drew1) | exact HB.out)⟩
end Go.Proofs.YthfobpkdloejfaaGreat.Rup
end
