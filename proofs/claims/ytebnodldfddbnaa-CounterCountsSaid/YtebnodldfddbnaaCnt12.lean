/- counter.Serve's contract. -/
import Derived.Test.YtebnodldfddbnaaCnt10
import Derived.Shelf.Abstract
namespace Go.Proofs.Ytebnodldfddbnaa.Cnt
open Go.RowKit Go.Proofs.Ytebnodldfddbnaa.PAll Go.Proofs.YtebnodldfddbnaaW.PrintWords Go.Proofs.YtebnodldfddbnaaW.PrintLast Go.Proofs.YtebnodldfddbnaaW.PrintMore Go.Proofs.Ytebnodldfddbnaa.Plain Go.Proofs.Ytebnodldfddbnaa.One Go.Proofs.Ytebnodldfddbnaa.Lit
set_option linter.unusedVariables false
set_option linter.unusedSimpArgs false
theorem results_tctt {P : Program} {fn : Func} {p u v x : Tmp} {ty : TypeId} (h : fn.results = #[.tmp u, .cell p ty, .tmp v, .tmp x]) (tmps : Array Value) (w : World) (g : Nat) (t : TypeId) (cs : Array Value) (fr : Nat × Nat) (d : TypeDesc)
    (hp : tmps.getD p undef = .pointer (some ⟨g, 0, none⟩)) (hg : w.heap[g]? = some (.cells cs t fr))
    (hu : P.underlying ty = some d) (hd : (match d with | .struct _ | .array _ _ => true | _ => false) = true) (hi : (P.info? ty).map (·.size) = some cs.size) :
    (results fn tmps).run P w = .ok (.tuple #[tmps.getD u undef, .agg cs, tmps.getD v undef, tmps.getD x undef]) w := by
  have hp' : tmps[p]?.getD undef = .pointer (some ⟨g, 0, none⟩) := by simpa using hp
  simp [results, h, hp', asAddr, run_loadVar_row w g t ty cs fr d hg hu hd hi]
theorem own_new {v' : Value} {W : World} {k : Nat} (h : v'.ownBlock = (Value.slice none 0 0).ownBlock ∨ ∃ b, v'.ownBlock = some b ∧ W.heap.size ≤ b) (hk : k < W.heap.size) : some k ≠ v'.ownBlock := by
  intro e
  rcases h with h | ⟨b, h, hb⟩
  · rw [h] at e; simp [Value.ownBlock] at e
  · rw [h] at e; injection e with e; omega
theorem drop_run {P : Program} (t e : TypeId) {i : TypeInfo} (ht : P.underlying t = some (.slice e)) (hi : P.info? e = some i) (A : Option Addr) (len c : Nat) (j : Int) (h0 : 0 ≤ j) (hm : j ≤ len) (W : World) :
    (Instr.slice t (.slice A len c) (some (.int .i64 j)) none none).run P W = .ok (.slice (if c = j.toNat then A else A.map (·.add (j.toNat * i.size))) (len - j.toNat) (c - j.toNat)) W := by
  have hel : P.elem t = e := by simp [Program.elem, ht]
  have hu : P.underlying t = some (.slice (P.elem t)) := by rw [hel]; exact ht
  rw [run_slice_l (P := P) W t A len c hu .i64 j h0 hm, hel]
  simp [sizeOf, typeInfo, hi, sliced, Result.andThen]
theorem zs : (Try.prog.info? 46).map (·.size) = some 2 := by kernel_rfl
set_option maxRecDepth 100000 in
set_option maxHeartbeats 8000000 in
theorem serve0 (A0 : Option Addr) (c0 : Nat) (l : List S26) (A1 : Option Addr) (c1 m : Nat) (w : World) (n : Nat) (e0 : l.length = n) (hr0 : Kd.C k26 w A0 n l) (hc0 : n ≤ c0) (hl : n ≤ 1000000) (hz : n = 0) :
    Calls Try.prog 19 #[.slice A0 n c0, .slice A1 m c1] w fun e w' => ∃ v, e = .returned (.tuple #[v, .agg #[.int .i64 0, .int .u16 0], .int .i64 0, .int .i64 14]) ∧ Kd.R k26 26 w' w.heap.size (fun _ => True) v [] ∧ Below w.heap.size w w' := by
  have HB := Aside0.mk (Below.refl w.heap.size w)
  have hC0 := Aside0.mk hr0
  have NX := fun w h => Next_c A0 c0 l n e0 w h hc0 hl
  rw [show decide (0 < n) = false from decide_eq_false (by omega)] at NX
  replace NX := Lib.hid NX
  generalize nxT l n = j_ at NX
  clear hr0 e0 hz hl hc0
  go_enter Try.func19, Try.ntmps19
  go_wp2_with (go_at_call 20; (with_reducible refine at_args #[.slice A0 n c0] ?_); (with_reducible refine (NX.out _ (by skip; exact Kd.C_below hC0.out (by repeat (first | (with_reducible first | exact HB.out | apply below_alloc | apply pw_below_drewN | apply below_drew1) | exact HB.out)))).mono ?_); rintro e w' ⟨rfl, hbn⟩; have HSl := Aside0.mk (show w.heap.size < w'.heap.size from Nat.lt_of_lt_of_le (by simp) hbn.size); have HS := Aside0.mk ((hbn.block w.heap.size (by simp)).trans (heap_alloc_new w _)); have z0 := Go.Joins.cell_of_block HS.out 0; have y0 := Go.Joins.unfrozen_of_block HS.out 0; have z1 := Go.Joins.cell_of_block HS.out 1; have y1 := Go.Joins.unfrozen_of_block HS.out 1; have HBn := Aside0.mk (below_step (by repeat (first | (with_reducible first | exact HB.out | apply below_alloc | apply pw_below_drewN | apply below_drew1) | exact HB.out)) hbn); clear HB hbn; have HB := HBn; clear HBn)
  have q0 := Go.Joins.block_setCell HS.out (i := 0) (.int .i64 0)
  have q1 := Go.Joins.block_setCell q0 (i := 1) (.int .u16 0)
  have HR : _ = some (Obj.cells #[.int .i64 0, .int .u16 0] 46 (0, 0)) := q1
  exact bodyPost_ret (v := .tuple #[.slice none 0 0, .agg #[.int .i64 0, .int .u16 0], .int .i64 0, .int .i64 14]) (results_tctt (fn := Try.f19) (p := 5) (u := 4) (v := 6) (x := 7) rfl _ _ _ _ _ _ _ rfl HR Try.underlying46 rfl zs) rfl ⟨_, rfl, Kd.R_nil _ _ _ _ _, below_set (below_set (by repeat (first | (with_reducible first | exact HB.out | apply below_alloc | apply pw_below_drewN | apply below_drew1) | exact HB.out)) (Nat.le_refl _)) (Nat.le_refl _)⟩


/-- What is known of the chosen pulse. -/
theorem serve_pre (A0 : Option Addr) (c0 : Nat) (l : List S26) (n : Nat) (e0 : l.length = n) (w : World) (hr0 : Kd.C k26 w A0 n l) (hp : 0 < n) : ∃ j ad, nxT l n = j ∧ 0 ≤ j ∧ j < (n : Int) ∧ A0 = some ad ∧ w.cell? (ad.add (j.toNat * 2)) = some (.int .i64 (pS l).f0) ∧ w.cell? ⟨(ad.add (j.toNat * 2)).block, (ad.add (j.toNat * 2)).off + 1, none⟩ = some (.int .u8 (pS l).f1) := by
  subst e0
  obtain ⟨n0, n1⟩ := nxT_range l l.length (Nat.le_refl _)
  have n1 := n1 hp
  obtain ⟨ad, eA, h0, h1⟩ := at_T26 hr0 (nxT l l.length) n0 n1
  exact ⟨_, ad, rfl, n0, n1, eA, h0, h1⟩
set_option maxRecDepth 100000 in
set_option maxHeartbeats 8000000 in
theorem serve_neg (ad : Addr) (c0 : Nat) (l : List S26) (A1 : Option Addr) (c1 m : Nat) (w : World) (n : Nat) (e0 : l.length = n) (hr0 : Kd.C k26 w (some ad) n l) (hc0 : n ≤ c0) (hl : n ≤ 1000000) (hp : 0 < n) (j_ at_ kk : Int) (ej : nxT l n = j_) (j0 : 0 ≤ j_) (j1 : j_ < (n : Int))
    (hw0 : w.cell? (ad.add (j_.toNat * 2)) = some (.int .i64 at_)) (hw1 : w.cell? ⟨(ad.add (j_.toNat * 2)).block, (ad.add (j_.toNat * 2)).off + 1, none⟩ = some (.int .u8 kk)) (hn : at_ < 0) :
    Calls Try.prog 19 #[.slice (some ad) n c0, .slice A1 m c1] w fun e w' => ∃ v, e = .returned (.tuple #[v, .agg #[.int .i64 0, .int .u16 0], .int .i64 0, .int .i64 9]) ∧ Kd.R k26 26 w' w.heap.size (fun _ => True) v [] ∧ Below w.heap.size w w' := by
  have HB := Aside0.mk (Below.refl w.heap.size w)
  have hC0 := Aside0.mk hr0
  have NX := fun w h => Next_c (some ad) c0 l n e0 w h hc0 hl
  rw [show decide (0 < n) = true from decide_eq_true hp, ej] at NX
  replace NX := Lib.hid NX
  have hj0 := Aside0.mk j0
  have hj1 := Aside0.mk j1
  have hln := Aside0.mk hl
  have hlw := Aside0.mk e0
  replace hw0 := Aside0.mk hw0
  replace hw1 := Aside0.mk hw1
  have qj := eq_true j1
  have hcc := Aside0.mk hc0
  have b0 : decide (at_ < 0) = true := decide_eq_true hn
  clear hn
  clear hr0 e0 hl hc0 hp ej
  go_enter Try.func19, Try.ntmps19
  go_wp2_with (go_at_call 20; (with_reducible refine at_args #[.slice (some ad) n c0] ?_); (with_reducible refine (NX.out _ (Kd.C_below hC0.out (by repeat (first | (with_reducible first | exact HB.out | apply below_alloc | apply pw_below_drewN | apply below_drew1) | exact HB.out)))).mono ?_); rintro e w' ⟨rfl, hbn⟩; have HS0 := (hbn.block w.heap.size (by simp)).trans (heap_alloc_new w _); have HSl0 : w.heap.size < w'.heap.size := Nat.lt_of_lt_of_le (by simp) hbn.size; have HS := Aside0.mk ((((Below.refl _ _).alloc (Nat.le_refl _) (.cells #[.int .i64 at_, .int .u8 kk] 26)).block _ HSl0).trans HS0); have HSl : Aside0 (w.heap.size < (w'.alloc (.cells #[.int .i64 at_, .int .u8 kk] 26)).heap.size) := ⟨by simp; omega⟩; have HXl : Aside0 (w'.heap.size < (w'.alloc (.cells #[.int .i64 at_, .int .u8 kk] 26)).heap.size) := ⟨by simp⟩; have HX := Aside0.mk (heap_alloc_new w' (.cells #[.int .i64 at_, .int .u8 kk] 26)); clear HS0 HSl0; have z0 := Go.Joins.cell_of_block HS.out 0; have y0 := Go.Joins.unfrozen_of_block HS.out 0; have z1 := Go.Joins.cell_of_block HS.out 1; have y1 := Go.Joins.unfrozen_of_block HS.out 1; have HBn := Aside0.mk (below_step (by repeat (first | (with_reducible first | exact HB.out | apply below_alloc | apply pw_below_drewN | apply below_drew1) | exact HB.out)) hbn); clear HB hbn; have HB := HBn; clear HBn; have hx0 := (HB.out.cell (World.block_lt_of_cell? w _ hw0.out)).trans hw0.out; have hx1 := (HB.out.cell (World.block_lt_of_cell? w _ hw1.out)).trans hw1.out)
  have q0 := Go.Joins.block_setCell HS.out (i := 0) (.int .i64 0)
  have q1 := Go.Joins.block_setCell q0 (i := 1) (.int .u16 0)
  have HR : _ = some (Obj.cells #[.int .i64 0, .int .u16 0] 46 (0, 0)) := q1
  exact bodyPost_ret (v := .tuple #[.slice none 0 0, .agg #[.int .i64 0, .int .u16 0], .int .i64 0, .int .i64 9]) (results_tctt (fn := Try.f19) (p := 5) (u := 4) (v := 6) (x := 7) rfl _ _ _ _ _ _ _ rfl HR Try.underlying46 rfl zs) rfl ⟨_, rfl, Kd.R_nil _ _ _ _ _, below_set (below_set (by repeat (first | (with_reducible first | exact HB.out | apply below_alloc | apply pw_below_drewN | apply below_drew1) | exact HB.out)) (Nat.le_refl _)) (Nat.le_refl _)⟩
set_option maxRecDepth 100000 in
set_option maxHeartbeats 8000000 in
theorem serve_far (ad : Addr) (c0 : Nat) (l : List S26) (A1 : Option Addr) (c1 m : Nat) (w : World) (n : Nat) (e0 : l.length = n) (hr0 : Kd.C k26 w (some ad) n l) (hc0 : n ≤ c0) (hl : n ≤ 1000000) (hp : 0 < n) (j_ at_ kk : Int) (ej : nxT l n = j_) (j0 : 0 ≤ j_) (j1 : j_ < (n : Int))
    (hw0 : w.cell? (ad.add (j_.toNat * 2)) = some (.int .i64 at_)) (hw1 : w.cell? ⟨(ad.add (j_.toNat * 2)).block, (ad.add (j_.toNat * 2)).off + 1, none⟩ = some (.int .u8 kk)) (hn : ¬ at_ < 0) (hm : at_ ≥ (m : Int)) :
    Calls Try.prog 19 #[.slice (some ad) n c0, .slice A1 m c1] w fun e w' => ∃ v, e = .returned (.tuple #[v, .agg #[.int .i64 0, .int .u16 0], .int .i64 0, .int .i64 9]) ∧ Kd.R k26 26 w' w.heap.size (fun _ => True) v [] ∧ Below w.heap.size w w' := by
  have HB := Aside0.mk (Below.refl w.heap.size w)
  have hC0 := Aside0.mk hr0
  have NX := fun w h => Next_c (some ad) c0 l n e0 w h hc0 hl
  rw [show decide (0 < n) = true from decide_eq_true hp, ej] at NX
  replace NX := Lib.hid NX
  have hj0 := Aside0.mk j0
  have hj1 := Aside0.mk j1
  have hln := Aside0.mk hl
  have hlw := Aside0.mk e0
  replace hw0 := Aside0.mk hw0
  replace hw1 := Aside0.mk hw1
  have qj := eq_true j1
  have hcc := Aside0.mk hc0
  have b0 : decide (at_ < 0) = false := decide_eq_false hn
  have b1 : decide (at_ ≥ (m : Int)) = true := decide_eq_true hm
  have b1' : decide ((m : Int) ≤ at_) = true := decide_eq_true hm
  clear hn hm
  clear hr0 e0 hl hc0 hp ej
  go_enter Try.func19, Try.ntmps19
  go_wp2_with (go_at_call 20; (with_reducible refine at_args #[.slice (some ad) n c0] ?_); (with_reducible refine (NX.out _ (Kd.C_below hC0.out (by repeat (first | (with_reducible first | exact HB.out | apply below_alloc | apply pw_below_drewN | apply below_drew1) | exact HB.out)))).mono ?_); rintro e w' ⟨rfl, hbn⟩; have HS0 := (hbn.block w.heap.size (by simp)).trans (heap_alloc_new w _); have HSl0 : w.heap.size < w'.heap.size := Nat.lt_of_lt_of_le (by simp) hbn.size; have HS := Aside0.mk ((((Below.refl _ _).alloc (Nat.le_refl _) (.cells #[.int .i64 at_, .int .u8 kk] 26)).block _ HSl0).trans HS0); have HSl : Aside0 (w.heap.size < (w'.alloc (.cells #[.int .i64 at_, .int .u8 kk] 26)).heap.size) := ⟨by simp; omega⟩; have HXl : Aside0 (w'.heap.size < (w'.alloc (.cells #[.int .i64 at_, .int .u8 kk] 26)).heap.size) := ⟨by simp⟩; have HX := Aside0.mk (heap_alloc_new w' (.cells #[.int .i64 at_, .int .u8 kk] 26)); clear HS0 HSl0; have z0 := Go.Joins.cell_of_block HS.out 0; have y0 := Go.Joins.unfrozen_of_block HS.out 0; have z1 := Go.Joins.cell_of_block HS.out 1; have y1 := Go.Joins.unfrozen_of_block HS.out 1; have HBn := Aside0.mk (below_step (by repeat (first | (with_reducible first | exact HB.out | apply below_alloc | apply pw_below_drewN | apply below_drew1) | exact HB.out)) hbn); clear HB hbn; have HB := HBn; clear HBn; have hx0 := (HB.out.cell (World.block_lt_of_cell? w _ hw0.out)).trans hw0.out; have hx1 := (HB.out.cell (World.block_lt_of_cell? w _ hw1.out)).trans hw1.out)
  have q0 := Go.Joins.block_setCell HS.out (i := 0) (.int .i64 0)
  have q1 := Go.Joins.block_setCell q0 (i := 1) (.int .u16 0)
  have HR : _ = some (Obj.cells #[.int .i64 0, .int .u16 0] 46 (0, 0)) := q1
  exact bodyPost_ret (v := .tuple #[.slice none 0 0, .agg #[.int .i64 0, .int .u16 0], .int .i64 0, .int .i64 9]) (results_tctt (fn := Try.f19) (p := 5) (u := 4) (v := 6) (x := 7) rfl _ _ _ _ _ _ _ rfl HR Try.underlying46 rfl zs) rfl ⟨_, rfl, Kd.R_nil _ _ _ _ _, below_set (below_set (by repeat (first | (with_reducible first | exact HB.out | apply below_alloc | apply pw_below_drewN | apply below_drew1) | exact HB.out)) (Nat.le_refl _)) (Nat.le_refl _)⟩
set_option maxRecDepth 100000 in
set_option maxHeartbeats 8000000 in
theorem serve_bad (ad : Addr) (c0 : Nat) (l : List S26) (A1 : Option Addr) (c1 m : Nat) (w : World) (n : Nat) (e0 : l.length = n) (hr0 : Kd.C k26 w (some ad) n l) (hc0 : n ≤ c0) (hl : n ≤ 1000000) (hp : 0 < n) (j_ at_ kk : Int) (ej : nxT l n = j_) (j0 : 0 ≤ j_) (j1 : j_ < (n : Int))
    (hw0 : w.cell? (ad.add (j_.toNat * 2)) = some (.int .i64 at_)) (hw1 : w.cell? ⟨(ad.add (j_.toNat * 2)).block, (ad.add (j_.toNat * 2)).off + 1, none⟩ = some (.int .u8 kk)) (hn : 0 ≤ at_) (hm : at_ < (m : Int)) (ad1 : Addr) (hA : A1 = some ad1) (x_ y_ s_ e_ : Int) (hxw : w.cell? (ad1.add at_.toNat) = some (.int .u16 x_)) (KA : ∀ w, Calls Try.prog 11 #[.int .u16 x_, .int .u8 kk] w fun e w' => e = .returned (.tuple #[.int .u16 y_, .int .i64 s_, .int .i64 e_]) ∧ Below w.heap.size w w') (he : e_ ≠ 0) :
    Calls Try.prog 19 #[.slice (some ad) n c0, .slice A1 m c1] w fun e w' => ∃ v, e = .returned (.tuple #[v, .agg #[.int .i64 0, .int .u16 0], .int .i64 0, .int .i64 e_]) ∧ Kd.R k26 26 w' w.heap.size (fun _ => True) v [] ∧ Below w.heap.size w w' := by
  have HB := Aside0.mk (Below.refl w.heap.size w)
  have hC0 := Aside0.mk hr0
  have NX := fun w h => Next_c (some ad) c0 l n e0 w h hc0 hl
  rw [show decide (0 < n) = true from decide_eq_true hp, ej] at NX
  replace NX := Lib.hid NX
  have hj0 := Aside0.mk j0
  have hj1 := Aside0.mk j1
  have hln := Aside0.mk hl
  have hlw := Aside0.mk e0
  replace hw0 := Aside0.mk hw0
  replace hw1 := Aside0.mk hw1
  have qj := eq_true j1
  have hcc := Aside0.mk hc0
  have b0 : decide (at_ < 0) = false := decide_eq_false (by omega)
  have b1 : decide (at_ ≥ (m : Int)) = false := decide_eq_false (by omega)
  have b1' : decide ((m : Int) ≤ at_) = false := decide_eq_false (by omega)
  have qn := eq_true hn
  have qm := eq_true hm
  subst hA
  replace hxw := Aside0.mk hxw
  replace KA := Lib.hid KA
  have b2 : (e_ != 0) = true := by rw [bne_iff_ne]; exact he
  clear hn hm he
  clear hr0 e0 hl hc0 hp ej
  go_enter Try.func19, Try.ntmps19
  go_wp2_with (go_at_call 20; (with_reducible refine at_args #[.slice (some ad) n c0] ?_); (with_reducible refine (NX.out _ (Kd.C_below hC0.out (by repeat (first | (with_reducible first | exact HB.out | apply below_alloc | apply pw_below_drewN | apply below_drew1) | exact HB.out)))).mono ?_); rintro e w' ⟨rfl, hbn⟩; have HS0 := (hbn.block w.heap.size (by simp)).trans (heap_alloc_new w _); have HSl0 : w.heap.size < w'.heap.size := Nat.lt_of_lt_of_le (by simp) hbn.size; have HS := Aside0.mk ((((Below.refl _ _).alloc (Nat.le_refl _) (.cells #[.int .i64 at_, .int .u8 kk] 26)).block _ HSl0).trans HS0); have HSl : Aside0 (w.heap.size < (w'.alloc (.cells #[.int .i64 at_, .int .u8 kk] 26)).heap.size) := ⟨by simp; omega⟩; have HXl : Aside0 (w'.heap.size < (w'.alloc (.cells #[.int .i64 at_, .int .u8 kk] 26)).heap.size) := ⟨by simp⟩; have HX := Aside0.mk (heap_alloc_new w' (.cells #[.int .i64 at_, .int .u8 kk] 26)); clear HS0 HSl0; have z0 := Go.Joins.cell_of_block HS.out 0; have y0 := Go.Joins.unfrozen_of_block HS.out 0; have z1 := Go.Joins.cell_of_block HS.out 1; have y1 := Go.Joins.unfrozen_of_block HS.out 1; have HBn := Aside0.mk (below_step (by repeat (first | (with_reducible first | exact HB.out | apply below_alloc | apply pw_below_drewN | apply below_drew1) | exact HB.out)) hbn); clear HB hbn; have HB := HBn; clear HBn; have hx0 := (HB.out.cell (World.block_lt_of_cell? w _ hw0.out)).trans hw0.out; have hx1 := (HB.out.cell (World.block_lt_of_cell? w _ hw1.out)).trans hw1.out)
  have hbx0 := Go.Joins.cell_of_block HX.out 0
  have hbx1 := Go.Joins.cell_of_block HX.out 1
  replace hbx0 : _ = some (Value.int .i64 at_) := hbx0
  replace hbx1 : _ = some (Value.int .u8 kk) := hbx1
  have HB8 : Aside0 (Below w.heap.size w (w'.alloc (.cells #[.int .i64 at_, .int .u8 kk] 26))) := ⟨by repeat (first | (with_reducible first | exact HB.out | apply below_alloc | apply pw_below_drewN | apply below_drew1) | exact HB.out)⟩
  have hxe := (HB8.out.cell (World.block_lt_of_cell? w _ hxw.out)).trans hxw.out
  clear HB hx0 hx1 z0 z1 y0 y1
  have HB := HB8
  clear HB8
  generalize w'.alloc (.cells #[.int .i64 at_, .int .u8 kk] 26) = wb at HS HSl HX HXl HB hbx0 hbx1 hxe ⊢
  generalize w'.heap.size = hb_ at HX HXl hbx0 hbx1 ⊢
  refine start_ (n := 15) (S := fun w' => w'.cell? ⟨hb_, 0, none⟩ = some (.int .i64 at_) ∧ w'.cell? ⟨hb_, 1, none⟩ = some (.int .u8 kk) ∧ w'.cell? (ad1.add at_.toNat) = some (.int .u16 x_)) (ds := []) #[false, false, false, false, false, false, false, false, false, false, false, false, false, false, false] (by kernel_rfl) rfl rfl ⟨hbx0, hbx1, hxe⟩ (fun hHeld => ?_)
  replace HS : Aside0 (wb.drew.heap[w.heap.size]? = _) := HS
  replace HSl : Aside0 (w.heap.size < wb.drew.heap.size) := HSl
  replace HX : Aside0 (wb.drew.heap[hb_]? = _) := HX
  replace HXl : Aside0 (hb_ < wb.drew.heap.size) := HXl
  replace HB : Aside0 (Below w.heap.size w wb.drew) := ⟨by repeat (first | (with_reducible first | exact HB.out | apply below_alloc | apply pw_below_drewN | apply below_drew1) | exact HB.out)⟩
  change wb.drew.cell? _ = _ at hbx0 hbx1 hxe
  generalize wb.drew = wd at HS HSl HX HXl HB hbx0 hbx1 hxe hHeld ⊢
  refine pure_ (i := 0) (N := some 39) (v := ?_) (a' := ?_) #[true, false, false, false, false, false, false, false, false, false, false, false, false, false, false] rfl rfl (by kernel_rfl) (fun _ _ _ h => h) (Or.inl ⟨by rfl, ?_⟩) ?_ ?_
  rotate_left
  · intro w'
    go_simp
    with_reducible rfl
  rotate_left
  · simp only [Act.put, List.setIfInBounds_toArray, List.set_cons_zero, List.set_cons_succ, i64_w, i32_w]
    rfl
  refine pure_ (i := 1) (N := some 40) (v := ?_) (a' := ?_) #[true, true, false, false, false, false, false, false, false, false, false, false, false, false, false] rfl rfl (by kernel_rfl) (fun _ _ _ h => h) (Or.inl ⟨by rfl, ?_⟩) ?_ ?_
  rotate_left
  · intro w'
    go_simp
    with_reducible rfl
  rotate_left
  · simp only [Act.put, List.setIfInBounds_toArray, List.set_cons_zero, List.set_cons_succ, i64_w, i32_w]
    rfl
  refine pure_ (i := 5) (N := some 44) (v := ?_) (a' := ?_) #[true, true, false, false, false, true, false, false, false, false, false, false, false, false, false] rfl rfl (by kernel_rfl) (fun _ _ _ h => h) (Or.inl ⟨by rfl, ?_⟩) ?_ ?_
  rotate_left
  · intro w'
    go_simp
    with_reducible rfl
  rotate_left
  · simp only [Act.put, List.setIfInBounds_toArray, List.set_cons_zero, List.set_cons_succ, i64_w, i32_w]
    rfl
  refine take_ (i := 2) (N := some 41) (v := ?_) (a' := ?_) #[true, true, true, false, false, true, false, false, false, false, false, false, false, false, false] rfl rfl (by kernel_rfl) (fun _ _ _ h => h) (Or.inl ⟨by rfl, ?_⟩) hHeld ?_ ?_
  rotate_left
  · rintro w' ⟨s0, s1, s2⟩
    go_simp
    with_reducible rfl
  rotate_left
  · simp only [Act.put, List.setIfInBounds_toArray, List.set_cons_zero, List.set_cons_succ, i64_w, i32_w]
    rfl
  refine pure_ (i := 3) (N := some 42) (v := ?_) (a' := ?_) #[true, true, true, true, false, true, false, false, false, false, false, false, false, false, false] rfl rfl (by kernel_rfl) (fun _ _ _ h => h) (Or.inl ⟨by rfl, ?_⟩) ?_ ?_
  rotate_left
  · intro w'
    go_simp
    with_reducible rfl
  rotate_left
  · simp only [Act.put, List.setIfInBounds_toArray, List.set_cons_zero, List.set_cons_succ, i64_w, i32_w]
    rfl
  refine take_ (i := 4) (N := some 43) (v := ?_) (a' := ?_) #[true, true, true, true, true, true, false, false, false, false, false, false, false, false, false] rfl rfl (by kernel_rfl) (fun _ _ _ h => h) (Or.inl ⟨by rfl, ?_⟩) hHeld ?_ ?_
  rotate_left
  · rintro w' ⟨s0, s1, s2⟩
    go_simp
    with_reducible rfl
  rotate_left
  · simp only [Act.put, List.setIfInBounds_toArray, List.set_cons_zero, List.set_cons_succ, i64_w, i32_w]
    rfl
  refine take_ (i := 6) (N := some 45) (v := ?_) (a' := ?_) #[true, true, true, true, true, true, true, false, false, false, false, false, false, false, false] rfl rfl (by kernel_rfl) (fun _ _ _ h => h) (Or.inl ⟨by rfl, ?_⟩) hHeld ?_ ?_
  rotate_left
  · rintro w' ⟨s0, s1, s2⟩
    go_simp
    with_reducible rfl
  rotate_left
  · simp only [Act.put, List.setIfInBounds_toArray, List.set_cons_zero, List.set_cons_succ, i64_w, i32_w]
    rfl
  refine one_ (i := 7) (N := some 46) #[true, true, true, true, true, true, true, true, false, false, false, false, false, false, false] rfl rfl (by kernel_rfl) (by decide) (fun K hK => ?_)
  refine goes_ Try.func11 (by kernel_rfl) rfl #[.int .u16 x_, .int .u8 kk] (by rfl) rfl rfl (by simp only [List.map_toArray, List.map_cons, List.map_nil]; rfl) ?_
  with_reducible refine (KA.out _).mono ?_
  rintro e w3 ⟨rfl, hba⟩
  refine ⟨_, rfl, ?_⟩
  replace hbx0 := (hba.cell (World.block_lt_of_cell? _ _ hbx0)).trans hbx0
  replace hbx1 := (hba.cell (World.block_lt_of_cell? _ _ hbx1)).trans hbx1
  replace hxe := (hba.cell (World.block_lt_of_cell? _ _ hxe)).trans hxe
  replace HS := Aside0.mk ((hba.block _ HSl.out).trans HS.out)
  replace HSl := Aside0.mk (Nat.lt_of_lt_of_le HSl.out hba.size)
  replace HX := Aside0.mk ((hba.block _ HXl.out).trans HX.out)
  replace HXl := Aside0.mk (Nat.lt_of_lt_of_le HXl.out hba.size)
  have HBn := Aside0.mk (below_step (by repeat (first | (with_reducible first | exact HB.out | apply below_alloc | apply pw_below_drewN | apply below_drew1) | exact HB.out)) hba)
  clear HB hba
  have HB := HBn
  clear HBn
  refine hK.out _ _ ⟨hbx0, hbx1, hxe⟩ (fun hHeld => ?_)
  clear hK K
  refine norm_ (a' := ?_) ?_ ?_
  rotate_left
  · show Act.put _ (some 46) _ = _
    simp only [Act.put, List.setIfInBounds_toArray, List.set_cons_zero, List.set_cons_succ, i64_w, i32_w]
    rfl
  refine pure_ (i := 8) (N := some 38) (v := ?_) (a' := ?_) #[true, true, true, true, true, true, true, true, true, false, false, false, false, false, false] rfl rfl (by kernel_rfl) (fun _ _ _ h => h) (Or.inl ⟨by rfl, ?_⟩) ?_ ?_
  rotate_left
  · intro w'
    go_simp
    with_reducible rfl
  rotate_left
  · simp only [Act.put, List.setIfInBounds_toArray, List.set_cons_zero, List.set_cons_succ, i64_w, i32_w]
    rfl
  refine pure_ (i := 9) (N := some 47) (v := ?_) (a' := ?_) #[true, true, true, true, true, true, true, true, true, true, false, false, false, false, false] rfl rfl (by kernel_rfl) (fun _ _ _ h => h) (Or.inl ⟨by rfl, ?_⟩) ?_ ?_
  rotate_left
  · intro w'
    go_simp
    with_reducible rfl
  rotate_left
  · simp only [Act.put, List.setIfInBounds_toArray, List.set_cons_zero, List.set_cons_succ, i64_w, i32_w]
    rfl
  refine pure_ (i := 10) (N := some 48) (v := ?_) (a' := ?_) #[true, true, true, true, true, true, true, true, true, true, true, false, false, false, false] rfl rfl (by kernel_rfl) (fun _ _ _ h => h) (Or.inl ⟨by rfl, ?_⟩) ?_ ?_
  rotate_left
  · intro w'
    go_simp
    with_reducible rfl
  rotate_left
  · simp only [Act.put, List.setIfInBounds_toArray, List.set_cons_zero, List.set_cons_succ, i64_w, i32_w]
    rfl
  refine pure_ (i := 11) (N := some 49) (v := ?_) (a' := ?_) #[true, true, true, true, true, true, true, true, true, true, true, true, false, false, false] rfl rfl (by kernel_rfl) (fun _ _ _ h => h) (Or.inl ⟨by rfl, ?_⟩) ?_ ?_
  rotate_left
  · intro w'
    go_simp
    with_reducible rfl
  rotate_left
  · simp only [Act.put, List.setIfInBounds_toArray, List.set_cons_zero, List.set_cons_succ, i64_w, i32_w]
    rfl
  refine pure_ (i := 12) (N := some 11) (v := ?_) (a' := ?_) #[true, true, true, true, true, true, true, true, true, true, true, true, true, false, false] rfl rfl (by kernel_rfl) (fun _ _ _ h => h) (Or.inl ⟨by rfl, ?_⟩) ?_ ?_
  rotate_left
  · intro w'
    go_simp
    with_reducible rfl
  rotate_left
  · simp only [Act.put, List.setIfInBounds_toArray, List.set_cons_zero, List.set_cons_succ, i64_w, i32_w]
    rfl
  refine pure_ (i := 13) (N := some 12) (v := ?_) (a' := ?_) #[true, true, true, true, true, true, true, true, true, true, true, true, true, true, false] rfl rfl (by kernel_rfl) (fun _ _ _ h => h) (Or.inl ⟨by rfl, ?_⟩) ?_ ?_
  rotate_left
  · intro w'
    go_simp
    with_reducible rfl
  rotate_left
  · simp only [Act.put, List.setIfInBounds_toArray, List.set_cons_zero, List.set_cons_succ, i64_w, i32_w]
    rfl
  refine pure_ (i := 14) (N := some 13) (v := ?_) (a' := ?_) #[true, true, true, true, true, true, true, true, true, true, true, true, true, true, true] rfl rfl (by kernel_rfl) (fun _ _ _ h => h) (Or.inl ⟨by rfl, ?_⟩) ?_ ?_
  rotate_left
  · intro w'
    go_simp
    with_reducible rfl
  rotate_left
  · simp only [Act.put, List.setIfInBounds_toArray, List.set_cons_zero, List.set_cons_succ, i64_w, i32_w]
    rfl
  refine done_ (by kernel_rfl) ?_
  have z0 := Go.Joins.cell_of_block HS.out 0; have y0 := Go.Joins.unfrozen_of_block HS.out 0; have z1 := Go.Joins.cell_of_block HS.out 1; have y1 := Go.Joins.unfrozen_of_block HS.out 1
  go_wp2
  have q0 := Go.Joins.block_setCell HS.out (i := 0) (.int .i64 0)
  have q1 := Go.Joins.block_setCell q0 (i := 1) (.int .u16 0)
  have HR : _ = some (Obj.cells #[.int .i64 0, .int .u16 0] 46 (0, 0)) := q1
  exact bodyPost_ret (v := .tuple #[.slice none 0 0, .agg #[.int .i64 0, .int .u16 0], .int .i64 0, .int .i64 e_]) (results_tctt (fn := Try.f19) (p := 5) (u := 4) (v := 6) (x := 7) rfl _ _ _ _ _ _ _ rfl HR Try.underlying46 rfl zs) rfl ⟨_, rfl, Kd.R_nil _ _ _ _ _, below_set (below_set (by repeat (first | (with_reducible first | exact HB.out | apply below_alloc | apply pw_below_drewN | apply below_drew1) | exact HB.out)) (Nat.le_refl _)) (Nat.le_refl _)⟩
set_option maxRecDepth 100000 in
set_option maxHeartbeats 8000000 in
theorem serve_ok (ad : Addr) (c0 : Nat) (l : List S26) (A1 : Option Addr) (c1 m : Nat) (w : World) (n : Nat) (e0 : l.length = n) (hr0 : Kd.C k26 w (some ad) n l) (hc0 : n ≤ c0) (hl : n ≤ 1000000) (hp : 0 < n) (j_ at_ kk : Int) (ej : nxT l n = j_) (j0 : 0 ≤ j_) (j1 : j_ < (n : Int))
    (hw0 : w.cell? (ad.add (j_.toNat * 2)) = some (.int .i64 at_)) (hw1 : w.cell? ⟨(ad.add (j_.toNat * 2)).block, (ad.add (j_.toNat * 2)).off + 1, none⟩ = some (.int .u8 kk)) (hn : 0 ≤ at_) (hm : at_ < (m : Int)) (ad1 : Addr) (hA : A1 = some ad1) (x_ y_ s_ : Int) (hxw : w.cell? (ad1.add at_.toNat) = some (.int .u16 x_)) (KA : ∀ w, Calls Try.prog 11 #[.int .u16 x_, .int .u8 kk] w fun e w' => e = .returned (.tuple #[.int .u16 y_, .int .i64 s_, .int .i64 0]) ∧ Below w.heap.size w w') :
    Calls Try.prog 19 #[.slice (some ad) n c0, .slice A1 m c1] w fun e w' => ∃ v, e = .returned (.tuple #[v, .agg #[.int .i64 at_, .int .u16 y_], .int .i64 s_, .int .i64 0]) ∧ Kd.R k26 26 w' w.heap.size (fun _ => True) v (l.take j_.toNat ++ l.drop (j_ + 1).toNat) ∧ Below w.heap.size w w' := by
  have HB := Aside0.mk (Below.refl w.heap.size w)
  have hC0 := Aside0.mk hr0
  have NX := fun w h => Next_c (some ad) c0 l n e0 w h hc0 hl
  rw [show decide (0 < n) = true from decide_eq_true hp, ej] at NX
  replace NX := Lib.hid NX
  have hj0 := Aside0.mk j0
  have hj1 := Aside0.mk j1
  have hln := Aside0.mk hl
  have hlw := Aside0.mk e0
  replace hw0 := Aside0.mk hw0
  replace hw1 := Aside0.mk hw1
  have qj := eq_true j1
  have hcc := Aside0.mk hc0
  have b0 : decide (at_ < 0) = false := decide_eq_false (by omega)
  have b1 : decide (at_ ≥ (m : Int)) = false := decide_eq_false (by omega)
  have b1' : decide ((m : Int) ≤ at_) = false := decide_eq_false (by omega)
  have qn := eq_true hn
  have qm := eq_true hm
  subst hA
  replace hxw := Aside0.mk hxw
  replace KA := Lib.hid KA
  clear hn hm
  clear hr0 e0 hl hc0 hp ej
  go_enter Try.func19, Try.ntmps19
  go_wp2_with (go_at_call 20; (with_reducible refine at_args #[.slice (some ad) n c0] ?_); (with_reducible refine (NX.out _ (Kd.C_below hC0.out (by repeat (first | (with_reducible first | exact HB.out | apply below_alloc | apply pw_below_drewN | apply below_drew1) | exact HB.out)))).mono ?_); rintro e w' ⟨rfl, hbn⟩; have HS0 := (hbn.block w.heap.size (by simp)).trans (heap_alloc_new w _); have HSl0 : w.heap.size < w'.heap.size := Nat.lt_of_lt_of_le (by simp) hbn.size; have HS := Aside0.mk ((((Below.refl _ _).alloc (Nat.le_refl _) (.cells #[.int .i64 at_, .int .u8 kk] 26)).block _ HSl0).trans HS0); have HSl : Aside0 (w.heap.size < (w'.alloc (.cells #[.int .i64 at_, .int .u8 kk] 26)).heap.size) := ⟨by simp; omega⟩; have HXl : Aside0 (w'.heap.size < (w'.alloc (.cells #[.int .i64 at_, .int .u8 kk] 26)).heap.size) := ⟨by simp⟩; have HX := Aside0.mk (heap_alloc_new w' (.cells #[.int .i64 at_, .int .u8 kk] 26)); clear HS0 HSl0; have z0 := Go.Joins.cell_of_block HS.out 0; have y0 := Go.Joins.unfrozen_of_block HS.out 0; have z1 := Go.Joins.cell_of_block HS.out 1; have y1 := Go.Joins.unfrozen_of_block HS.out 1; have HBn := Aside0.mk (below_step (by repeat (first | (with_reducible first | exact HB.out | apply below_alloc | apply pw_below_drewN | apply below_drew1) | exact HB.out)) hbn); clear HB hbn; have HB := HBn; clear HBn; have hx0 := (HB.out.cell (World.block_lt_of_cell? w _ hw0.out)).trans hw0.out; have hx1 := (HB.out.cell (World.block_lt_of_cell? w _ hw1.out)).trans hw1.out)
  have hbx0 := Go.Joins.cell_of_block HX.out 0
  have hbx1 := Go.Joins.cell_of_block HX.out 1
  replace hbx0 : _ = some (Value.int .i64 at_) := hbx0
  replace hbx1 : _ = some (Value.int .u8 kk) := hbx1
  have HB8 : Aside0 (Below w.heap.size w (w'.alloc (.cells #[.int .i64 at_, .int .u8 kk] 26))) := ⟨by repeat (first | (with_reducible first | exact HB.out | apply below_alloc | apply pw_below_drewN | apply below_drew1) | exact HB.out)⟩
  have hxe := (HB8.out.cell (World.block_lt_of_cell? w _ hxw.out)).trans hxw.out
  clear HB hx0 hx1 z0 z1 y0 y1
  have HB := HB8
  clear HB8
  generalize w'.alloc (.cells #[.int .i64 at_, .int .u8 kk] 26) = wb at HS HSl HX HXl HB hbx0 hbx1 hxe ⊢
  generalize w'.heap.size = hb_ at HX HXl hbx0 hbx1 ⊢
  refine start_ (n := 15) (S := fun w' => w'.cell? ⟨hb_, 0, none⟩ = some (.int .i64 at_) ∧ w'.cell? ⟨hb_, 1, none⟩ = some (.int .u8 kk) ∧ w'.cell? (ad1.add at_.toNat) = some (.int .u16 x_)) (ds := []) #[false, false, false, false, false, false, false, false, false, false, false, false, false, false, false] (by kernel_rfl) rfl rfl ⟨hbx0, hbx1, hxe⟩ (fun hHeld => ?_)
  replace HS : Aside0 (wb.drew.heap[w.heap.size]? = _) := HS
  replace HSl : Aside0 (w.heap.size < wb.drew.heap.size) := HSl
  replace HX : Aside0 (wb.drew.heap[hb_]? = _) := HX
  replace HXl : Aside0 (hb_ < wb.drew.heap.size) := HXl
  replace HB : Aside0 (Below w.heap.size w wb.drew) := ⟨by repeat (first | (with_reducible first | exact HB.out | apply below_alloc | apply pw_below_drewN | apply below_drew1) | exact HB.out)⟩
  change wb.drew.cell? _ = _ at hbx0 hbx1 hxe
  generalize wb.drew = wd at HS HSl HX HXl HB hbx0 hbx1 hxe hHeld ⊢
  refine pure_ (i := 0) (N := some 39) (v := ?_) (a' := ?_) #[true, false, false, false, false, false, false, false, false, false, false, false, false, false, false] rfl rfl (by kernel_rfl) (fun _ _ _ h => h) (Or.inl ⟨by rfl, ?_⟩) ?_ ?_
  rotate_left
  · intro w'
    go_simp
    with_reducible rfl
  rotate_left
  · simp only [Act.put, List.setIfInBounds_toArray, List.set_cons_zero, List.set_cons_succ, i64_w, i32_w]
    rfl
  refine pure_ (i := 1) (N := some 40) (v := ?_) (a' := ?_) #[true, true, false, false, false, false, false, false, false, false, false, false, false, false, false] rfl rfl (by kernel_rfl) (fun _ _ _ h => h) (Or.inl ⟨by rfl, ?_⟩) ?_ ?_
  rotate_left
  · intro w'
    go_simp
    with_reducible rfl
  rotate_left
  · simp only [Act.put, List.setIfInBounds_toArray, List.set_cons_zero, List.set_cons_succ, i64_w, i32_w]
    rfl
  refine pure_ (i := 5) (N := some 44) (v := ?_) (a' := ?_) #[true, true, false, false, false, true, false, false, false, false, false, false, false, false, false] rfl rfl (by kernel_rfl) (fun _ _ _ h => h) (Or.inl ⟨by rfl, ?_⟩) ?_ ?_
  rotate_left
  · intro w'
    go_simp
    with_reducible rfl
  rotate_left
  · simp only [Act.put, List.setIfInBounds_toArray, List.set_cons_zero, List.set_cons_succ, i64_w, i32_w]
    rfl
  refine take_ (i := 2) (N := some 41) (v := ?_) (a' := ?_) #[true, true, true, false, false, true, false, false, false, false, false, false, false, false, false] rfl rfl (by kernel_rfl) (fun _ _ _ h => h) (Or.inl ⟨by rfl, ?_⟩) hHeld ?_ ?_
  rotate_left
  · rintro w' ⟨s0, s1, s2⟩
    go_simp
    with_reducible rfl
  rotate_left
  · simp only [Act.put, List.setIfInBounds_toArray, List.set_cons_zero, List.set_cons_succ, i64_w, i32_w]
    rfl
  refine pure_ (i := 3) (N := some 42) (v := ?_) (a' := ?_) #[true, true, true, true, false, true, false, false, false, false, false, false, false, false, false] rfl rfl (by kernel_rfl) (fun _ _ _ h => h) (Or.inl ⟨by rfl, ?_⟩) ?_ ?_
  rotate_left
  · intro w'
    go_simp
    with_reducible rfl
  rotate_left
  · simp only [Act.put, List.setIfInBounds_toArray, List.set_cons_zero, List.set_cons_succ, i64_w, i32_w]
    rfl
  refine take_ (i := 4) (N := some 43) (v := ?_) (a' := ?_) #[true, true, true, true, true, true, false, false, false, false, false, false, false, false, false] rfl rfl (by kernel_rfl) (fun _ _ _ h => h) (Or.inl ⟨by rfl, ?_⟩) hHeld ?_ ?_
  rotate_left
  · rintro w' ⟨s0, s1, s2⟩
    go_simp
    with_reducible rfl
  rotate_left
  · simp only [Act.put, List.setIfInBounds_toArray, List.set_cons_zero, List.set_cons_succ, i64_w, i32_w]
    rfl
  refine take_ (i := 6) (N := some 45) (v := ?_) (a' := ?_) #[true, true, true, true, true, true, true, false, false, false, false, false, false, false, false] rfl rfl (by kernel_rfl) (fun _ _ _ h => h) (Or.inl ⟨by rfl, ?_⟩) hHeld ?_ ?_
  rotate_left
  · rintro w' ⟨s0, s1, s2⟩
    go_simp
    with_reducible rfl
  rotate_left
  · simp only [Act.put, List.setIfInBounds_toArray, List.set_cons_zero, List.set_cons_succ, i64_w, i32_w]
    rfl
  refine one_ (i := 7) (N := some 46) #[true, true, true, true, true, true, true, true, false, false, false, false, false, false, false] rfl rfl (by kernel_rfl) (by decide) (fun K hK => ?_)
  refine goes_ Try.func11 (by kernel_rfl) rfl #[.int .u16 x_, .int .u8 kk] (by rfl) rfl rfl (by simp only [List.map_toArray, List.map_cons, List.map_nil]; rfl) ?_
  with_reducible refine (KA.out _).mono ?_
  rintro e w3 ⟨rfl, hba⟩
  refine ⟨_, rfl, ?_⟩
  replace hbx0 := (hba.cell (World.block_lt_of_cell? _ _ hbx0)).trans hbx0
  replace hbx1 := (hba.cell (World.block_lt_of_cell? _ _ hbx1)).trans hbx1
  replace hxe := (hba.cell (World.block_lt_of_cell? _ _ hxe)).trans hxe
  replace HS := Aside0.mk ((hba.block _ HSl.out).trans HS.out)
  replace HSl := Aside0.mk (Nat.lt_of_lt_of_le HSl.out hba.size)
  replace HX := Aside0.mk ((hba.block _ HXl.out).trans HX.out)
  replace HXl := Aside0.mk (Nat.lt_of_lt_of_le HXl.out hba.size)
  have HBn := Aside0.mk (below_step (by repeat (first | (with_reducible first | exact HB.out | apply below_alloc | apply pw_below_drewN | apply below_drew1) | exact HB.out)) hba)
  clear HB hba
  have HB := HBn
  clear HBn
  refine hK.out _ _ ⟨hbx0, hbx1, hxe⟩ (fun hHeld => ?_)
  clear hK K
  refine norm_ (a' := ?_) ?_ ?_
  rotate_left
  · show Act.put _ (some 46) _ = _
    simp only [Act.put, List.setIfInBounds_toArray, List.set_cons_zero, List.set_cons_succ, i64_w, i32_w]
    rfl
  refine pure_ (i := 8) (N := some 38) (v := ?_) (a' := ?_) #[true, true, true, true, true, true, true, true, true, false, false, false, false, false, false] rfl rfl (by kernel_rfl) (fun _ _ _ h => h) (Or.inl ⟨by rfl, ?_⟩) ?_ ?_
  rotate_left
  · intro w'
    go_simp
    with_reducible rfl
  rotate_left
  · simp only [Act.put, List.setIfInBounds_toArray, List.set_cons_zero, List.set_cons_succ, i64_w, i32_w]
    rfl
  refine pure_ (i := 9) (N := some 47) (v := ?_) (a' := ?_) #[true, true, true, true, true, true, true, true, true, true, false, false, false, false, false] rfl rfl (by kernel_rfl) (fun _ _ _ h => h) (Or.inl ⟨by rfl, ?_⟩) ?_ ?_
  rotate_left
  · intro w'
    go_simp
    with_reducible rfl
  rotate_left
  · simp only [Act.put, List.setIfInBounds_toArray, List.set_cons_zero, List.set_cons_succ, i64_w, i32_w]
    rfl
  refine pure_ (i := 10) (N := some 48) (v := ?_) (a' := ?_) #[true, true, true, true, true, true, true, true, true, true, true, false, false, false, false] rfl rfl (by kernel_rfl) (fun _ _ _ h => h) (Or.inl ⟨by rfl, ?_⟩) ?_ ?_
  rotate_left
  · intro w'
    go_simp
    with_reducible rfl
  rotate_left
  · simp only [Act.put, List.setIfInBounds_toArray, List.set_cons_zero, List.set_cons_succ, i64_w, i32_w]
    rfl
  refine pure_ (i := 11) (N := some 49) (v := ?_) (a' := ?_) #[true, true, true, true, true, true, true, true, true, true, true, true, false, false, false] rfl rfl (by kernel_rfl) (fun _ _ _ h => h) (Or.inl ⟨by rfl, ?_⟩) ?_ ?_
  rotate_left
  · intro w'
    go_simp
    with_reducible rfl
  rotate_left
  · simp only [Act.put, List.setIfInBounds_toArray, List.set_cons_zero, List.set_cons_succ, i64_w, i32_w]
    rfl
  refine pure_ (i := 12) (N := some 11) (v := ?_) (a' := ?_) #[true, true, true, true, true, true, true, true, true, true, true, true, true, false, false] rfl rfl (by kernel_rfl) (fun _ _ _ h => h) (Or.inl ⟨by rfl, ?_⟩) ?_ ?_
  rotate_left
  · intro w'
    go_simp
    with_reducible rfl
  rotate_left
  · simp only [Act.put, List.setIfInBounds_toArray, List.set_cons_zero, List.set_cons_succ, i64_w, i32_w]
    rfl
  refine pure_ (i := 13) (N := some 12) (v := ?_) (a' := ?_) #[true, true, true, true, true, true, true, true, true, true, true, true, true, true, false] rfl rfl (by kernel_rfl) (fun _ _ _ h => h) (Or.inl ⟨by rfl, ?_⟩) ?_ ?_
  rotate_left
  · intro w'
    go_simp
    with_reducible rfl
  rotate_left
  · simp only [Act.put, List.setIfInBounds_toArray, List.set_cons_zero, List.set_cons_succ, i64_w, i32_w]
    rfl
  refine pure_ (i := 14) (N := some 13) (v := ?_) (a' := ?_) #[true, true, true, true, true, true, true, true, true, true, true, true, true, true, true] rfl rfl (by kernel_rfl) (fun _ _ _ h => h) (Or.inl ⟨by rfl, ?_⟩) ?_ ?_
  rotate_left
  · intro w'
    go_simp
    with_reducible rfl
  rotate_left
  · simp only [Act.put, List.setIfInBounds_toArray, List.set_cons_zero, List.set_cons_succ, i64_w, i32_w]
    rfl
  refine done_ (by kernel_rfl) ?_
  have z0 := Go.Joins.cell_of_block HS.out 0; have y0 := Go.Joins.unfrozen_of_block HS.out 0; have z1 := Go.Joins.cell_of_block HS.out 1; have y1 := Go.Joins.unfrozen_of_block HS.out 1
  clear z0 z1 y0 y1 hbx0 hbx1 hxe
  obtain ⟨iP, hiP, -, hiP1, -⟩ := info_parts infoPulse
  have hT : ∀ W : World, (Instr.slice 31 (.slice (some ad) n c0) none (some (.int .i64 j_)) none).run Try.prog W = .ok (.slice (some ad) j_.toNat c0) W := fun W => take_run 31 26 .i64 Try.underlying31 hiP (some ad) n c0 j_ hj0.out (by have := hj1.out; have := hcc.out; omega) W
  obtain ⟨Ad, hAd⟩ : ∃ A, (if c0 = (j_ + 1).toNat then some ad else (some ad).map (·.add ((j_ + 1).toNat * 2))) = A := ⟨_, rfl⟩
  have hD : ∀ W : World, (Instr.slice 31 (.slice (some ad) n c0) (some (.int .i64 (wrap64 (j_ + 1)))) none none).run Try.prog W = .ok (.slice Ad (n - (j_ + 1).toNat) (c0 - (j_ + 1).toNat)) W := by
    intro W
    rw [w64 (n := j_ + 1) (by have := hj0.out; omega) (by have := hj1.out; have := hln.out; omega), drop_run 31 26 Try.underlying31 hiP (some ad) n c0 (j_ + 1) (by have := hj0.out; omega) (by have := hj1.out; omega) W, hiP1, ← hAd]
  have CT := Aside0.mk (Kd.C_take (m := j_.toNat) (by rw [hlw.out]; exact hC0.out) (by have := hj1.out; have := hlw.out; omega))
  rw [show (l.take j_.toNat).length = j_.toNat by rw [List.length_take]; have := hj1.out; have := hlw.out; omega] at CT
  have CD_ := Aside0.mk (Kd.C_drop (m := (j_ + 1).toNat) (c := c0) (by rw [hlw.out]; exact hC0.out) (by have := hj1.out; have := hlw.out; omega) (by rw [hlw.out]; exact hcc.out))
  rw [show (l.drop (j_ + 1).toNat).length = n - (j_ + 1).toNat by rw [List.length_drop, hlw.out]] at CD_
  replace CD_ : Aside0 (Kd.C k26 w Ad (n - (j_ + 1).toNat) (l.drop (j_ + 1).toNat)) := ⟨by rw [← hAd]; exact CD_.out⟩
  clear hAd hiP hiP1
  go_wp2
  generalize w3 = wc at HS HSl HX HXl HB ⊢
  refine start_ (n := 10) (S := fun w' => True) (ds := [8]) #[false, false, false, false, false, false, false, false, false, false] (by kernel_rfl) rfl rfl trivial (fun hHeld => ?_)
  replace HS : Aside0 (wc.drew.heap[w.heap.size]? = _) := HS
  replace HX : Aside0 (wc.drew.heap[hb_]? = _) := HX
  replace HSl : Aside0 (w.heap.size < wc.drew.heap.size) := HSl
  replace HXl : Aside0 (hb_ < wc.drew.heap.size) := HXl
  replace HB : Aside0 (Below w.heap.size w wc.drew) := ⟨by repeat (first | (with_reducible first | exact HB.out | apply below_alloc | apply pw_below_drewN | apply below_drew1) | exact HB.out)⟩
  clear hHeld
  generalize wc.drew = wd at HS HX HSl HXl HB ⊢
  refine pure_ (i := 0) (N := some 54) (v := ?_) (a' := ?_) #[true, false, false, false, false, false, false, false, false, false] rfl rfl (by kernel_rfl) (fun _ _ _ h => h) (Or.inl ⟨by rfl, ?_⟩) ?_ ?_
  rotate_left
  · intro w'
    go_simp
    with_reducible rfl
  rotate_left
  · simp only [Act.put, List.setIfInBounds_toArray, List.set_cons_zero, List.set_cons_succ, i64_w, i32_w]
    rfl
  refine pure_ (i := 1) (N := some 55) (v := ?_) (a' := ?_) #[true, true, false, false, false, false, false, false, false, false] rfl rfl (by kernel_rfl) (fun _ _ _ h => h) (Or.inl ⟨by rfl, ?_⟩) ?_ ?_
  rotate_left
  · intro w'
    go_simp
    with_reducible rfl
  rotate_left
  · simp only [Act.put, List.setIfInBounds_toArray, List.set_cons_zero, List.set_cons_succ, i64_w, i32_w]
    rfl
  refine pure_ (i := 2) (N := some 56) (v := ?_) (a' := ?_) #[true, true, true, false, false, false, false, false, false, false] rfl rfl (by kernel_rfl) (fun _ _ _ h => h) (Or.inl ⟨by rfl, ?_⟩) ?_ ?_
  rotate_left
  · intro w'
    go_simp
    with_reducible rfl
  rotate_left
  · simp only [Act.put, List.setIfInBounds_toArray, List.set_cons_zero, List.set_cons_succ, i64_w, i32_w]
    rfl
  refine pure_ (i := 4) (N := some 58) (v := ?_) (a' := ?_) #[true, true, true, false, true, false, false, false, false, false] rfl rfl (by kernel_rfl) (fun _ _ _ h => h) (Or.inl ⟨by rfl, ?_⟩) ?_ ?_
  rotate_left
  · intro w'
    go_simp
    with_reducible rfl
  rotate_left
  · simp only [Act.put, List.setIfInBounds_toArray, List.set_cons_zero, List.set_cons_succ, i64_w, i32_w]
    rfl
  refine pure_ (i := 5) (N := some 59) (v := ?_) (a' := ?_) #[true, true, true, false, true, true, false, false, false, false] rfl rfl (by kernel_rfl) (fun _ _ _ h => h) (Or.inl ⟨by rfl, ?_⟩) ?_ ?_
  rotate_left
  · intro w'
    go_simp
    with_reducible rfl
  rotate_left
  · simp only [Act.put, List.setIfInBounds_toArray, List.set_cons_zero, List.set_cons_succ, i64_w, i32_w]
    rfl
  refine pure_ (i := 6) (N := some 60) (v := ?_) (a' := ?_) #[true, true, true, false, true, true, true, false, false, false] rfl rfl (by kernel_rfl) (fun _ _ _ h => h) (Or.inl ⟨by rfl, ?_⟩) ?_ ?_
  rotate_left
  · intro w'
    go_simp
    with_reducible rfl
  rotate_left
  · simp only [Act.put, List.setIfInBounds_toArray, List.set_cons_zero, List.set_cons_succ, i64_w, i32_w]
    rfl
  refine pure_ (i := 7) (N := some 61) (v := ?_) (a' := ?_) #[true, true, true, false, true, true, true, true, false, false] rfl rfl (by kernel_rfl) (fun _ _ _ h => h) (Or.inl ⟨by rfl, ?_⟩) ?_ ?_
  rotate_left
  · intro w'
    go_simp
    with_reducible rfl
  rotate_left
  · simp only [Act.put, List.setIfInBounds_toArray, List.set_cons_zero, List.set_cons_succ, i64_w, i32_w]
    rfl
  refine one_ (i := 3) (N := some 57) #[true, true, true, true, true, true, true, true, false, false] rfl rfl (by kernel_rfl) (by decide) (fun K hK => ?_)
  refine Kd.R_append_rows_step k26 (Rr := k26.K (wd)) (w0 := w) w.heap.size ?hw1 (.const (.slice none 0 0)) (.tmp 56) 31 26 (.agg #[.int .i64 0, .int .u8 0]) 16 ?ho1 Try.underlying31 infoPulse rfl (by decide) (by decide) (.slice none 0 0) ([]) (l.take j_.toNat) (some ad) (j_.toNat) (c0) (fun _ => True) (fun _ => False) ?hs1 ?hx1 ?aO1 ?aR1 ?aKM1 (fun _ hk => hk.elim) (fun _ _ => trivial) ?aB1 ?aS1 ?aL1 ?_
  case hw1 => rfl
  case ho1 => rfl
  case hs1 => rfl
  case hx1 => rfl
  case aO1 => exact Kd.R_nil _ _ _ _ _
  case aR1 => exact Kd.C_below CT.out (by repeat (first | (with_reducible first | exact HB.out | apply below_alloc | apply pw_below_drewN | apply below_drew1) | exact HB.out))
  case aKM1 => exact fun x cs h => by obtain rfl := k26_open h; exact k26_mkM _ _ _ x
  case aB1 => exact (by repeat (first | (with_reducible first | exact HB.out | apply below_alloc | apply pw_below_drewN | apply below_drew1) | exact HB.out))
  case aS1 => exact (below_size (by repeat (first | (with_reducible first | exact HB.out | apply below_alloc | apply pw_below_drewN | apply below_drew1) | exact HB.out)))
  case aL1 => have := hln.out; have := hj1.out; simp; omega
  intro v57 w1 ho hb hg hat
  rw [List.nil_append] at ho
  have hbW := pw_below_grown (Below.refl _ _) none (Nat.le_refl _) hg (fun k hk => by cases hk)
  have N5 : some w.heap.size ≠ v57.ownBlock := own_new hat HSl.out
  have NX : some hb_ ≠ v57.ownBlock := own_new hat HXl.out
  have R57 := Aside0.mk ho
  clear ho hg hat HB
  have HB := Aside0.mk hb
  clear hb
  replace HS := Aside0.mk ((hbW.block _ HSl.out).trans HS.out)
  replace HX := Aside0.mk ((hbW.block _ HXl.out).trans HX.out)
  replace HSl := Aside0.mk (Nat.lt_of_lt_of_le HSl.out hbW.size)
  replace HXl := Aside0.mk (Nat.lt_of_lt_of_le HXl.out hbW.size)
  clear hbW
  refine hK.out _ _ trivial (fun hHeld => ?_)
  clear hK K
  refine norm_ (a' := ?_) ?_ ?_
  rotate_left
  · show Act.put _ (some 57) _ = _
    simp only [Act.put, List.setIfInBounds_toArray, List.set_cons_zero, List.set_cons_succ, i64_w, i32_w]
    rfl
  refine last_ (i := 8) (N := some 62) #[true, true, true, true, true, true, true, true, true, false] rfl rfl (by kernel_rfl) (by decide) (fun K hK => ?_)
  refine Kd.R_append_rows_step k26 (Rr := k26.K (w1)) (w0 := w) w.heap.size ?hw2 (.tmp 57) (.tmp 61) 31 26 (.agg #[.int .i64 0, .int .u8 0]) 16 ?ho2 Try.underlying31 infoPulse rfl (by decide) (by decide) (v57) (l.take j_.toNat) (l.drop (j_ + 1).toNat) (Ad) (n - (j_ + 1).toNat) (c0 - (j_ + 1).toNat) (fun _ => True) (fun _ => False) ?hs2 ?hx2 ?aO2 ?aR2 ?aKM2 (fun _ hk => hk.elim) (fun _ _ => trivial) ?aB2 ?aS2 ?aL2 ?_
  case hw2 => rfl
  case ho2 => rfl
  case hs2 => rfl
  case hx2 => rfl
  case aO2 => exact R57.out
  case aR2 => exact Kd.C_below CD_.out (by repeat (first | (with_reducible first | exact HB.out | apply below_alloc | apply pw_below_drewN | apply below_drew1) | exact HB.out))
  case aKM2 => exact fun x cs h => by obtain rfl := k26_open h; exact k26_mkM _ _ _ x
  case aB2 => exact (by repeat (first | (with_reducible first | exact HB.out | apply below_alloc | apply pw_below_drewN | apply below_drew1) | exact HB.out))
  case aS2 => exact (below_size (by repeat (first | (with_reducible first | exact HB.out | apply below_alloc | apply pw_below_drewN | apply below_drew1) | exact HB.out)))
  case aL2 => have := hln.out; have := hj1.out; have := hlw.out; simp; omega
  intro v62 w2 ho hb hg hat
  have nS := Aside0.mk ((hg.block _ HSl.out N5).trans HS.out)
  have nX := Aside0.mk ((hg.block _ HXl.out NX).trans HX.out)
  clear R57 HS HX HSl HXl HB hat hg N5 NX
  have R62 := Aside0.mk ho
  have HS := nS
  have HX := nX
  have HB := Aside0.mk hb
  clear nS nX ho hb
  refine hK.out _ _ ?_
  clear hK K
  refine norm_ (a' := ?_) ?_ ?_
  rotate_left
  · show Act.put _ (some 62) _ = _
    simp only [Act.put, List.setIfInBounds_toArray, List.set_cons_zero, List.set_cons_succ, i64_w, i32_w]
    rfl
  refine pure_ (i := 9) (N := some 14) (v := ?_) (a' := ?_) #[true, true, true, true, true, true, true, true, true, true] rfl rfl (by kernel_rfl) (fun _ _ _ h => h) (Or.inl ⟨by rfl, ?_⟩) ?_ ?_
  rotate_left
  · intro w'
    go_simp
    with_reducible rfl
  rotate_left
  · simp only [Act.put, List.setIfInBounds_toArray, List.set_cons_zero, List.set_cons_succ, i64_w, i32_w]
    rfl
  refine done_ (by kernel_rfl) ?_
  go_wp2
  have hbx0 := Go.Joins.cell_of_block HX.out 0
  replace hbx0 : _ = some (Value.int .i64 at_) := hbx0
  have z0 := Go.Joins.cell_of_block HS.out 0; have y0 := Go.Joins.unfrozen_of_block HS.out 0; have z1 := Go.Joins.cell_of_block HS.out 1; have y1 := Go.Joins.unfrozen_of_block HS.out 1
  clear hT hD
  generalize w2 = we at HS HX HB R62 hbx0 z0 z1 y0 y1 ⊢
  refine start_ (n := 10) (S := fun w' => w'.cell? ⟨hb_, 0, none⟩ = some (.int .i64 at_)) (ds := [7]) #[false, false, false, false, false, false, false, false, false, false] (by kernel_rfl) rfl rfl (hbx0) (fun hHeld => ?_)
  change we.drew.cell? _ = _ at hbx0 z0 z1
  change we.drew.frozen? _ = _ at y0 y1
  replace R62 := Aside0.mk (Kd.R_drew R62.out)
  replace HS : Aside0 (we.drew.heap[w.heap.size]? = _) := HS
  replace HB : Aside0 (Below w.heap.size w we.drew) := ⟨by repeat (first | (with_reducible first | exact HB.out | apply below_alloc | apply pw_below_drewN | apply below_drew1) | exact HB.out)⟩
  generalize we.drew = wf at R62 HS HB hbx0 z0 z1 y0 y1 hHeld ⊢
  refine pure_ (i := 0) (N := some 63) (v := ?_) (a' := ?_) #[true, false, false, false, false, false, false, false, false, false] rfl rfl (by kernel_rfl) (fun _ _ _ h => h) (Or.inl ⟨by rfl, ?_⟩) ?_ ?_
  rotate_left
  · intro w'
    go_simp
    with_reducible rfl
  rotate_left
  · simp only [Act.put, List.setIfInBounds_toArray, List.set_cons_zero, List.set_cons_succ, i64_w, i32_w]
    rfl
  refine pure_ (i := 1) (N := some 64) (v := ?_) (a' := ?_) #[true, true, false, false, false, false, false, false, false, false] rfl rfl (by kernel_rfl) (fun _ _ _ h => h) (Or.inl ⟨by rfl, ?_⟩) ?_ ?_
  rotate_left
  · intro w'
    go_simp
    with_reducible rfl
  rotate_left
  · simp only [Act.put, List.setIfInBounds_toArray, List.set_cons_zero, List.set_cons_succ, i64_w, i32_w]
    rfl
  refine pure_ (i := 3) (N := some 66) (v := ?_) (a' := ?_) #[true, true, false, true, false, false, false, false, false, false] rfl rfl (by kernel_rfl) (fun _ _ _ h => h) (Or.inl ⟨by rfl, ?_⟩) ?_ ?_
  rotate_left
  · intro w'
    go_simp
    with_reducible rfl
  rotate_left
  · simp only [Act.put, List.setIfInBounds_toArray, List.set_cons_zero, List.set_cons_succ, i64_w, i32_w]
    rfl
  refine pure_ (i := 5) (N := some 68) (v := ?_) (a' := ?_) #[true, true, false, true, false, true, false, false, false, false] rfl rfl (by kernel_rfl) (fun _ _ _ h => h) (Or.inl ⟨by rfl, ?_⟩) ?_ ?_
  rotate_left
  · intro w'
    go_simp
    with_reducible rfl
  rotate_left
  · simp only [Act.put, List.setIfInBounds_toArray, List.set_cons_zero, List.set_cons_succ, i64_w, i32_w]
    rfl
  refine pure_ (i := 6) (N := some 4) (v := ?_) (a' := ?_) #[true, true, false, true, false, true, true, false, false, false] rfl rfl (by kernel_rfl) (fun _ _ _ h => h) (Or.inl ⟨by rfl, ?_⟩) ?_ ?_
  rotate_left
  · intro w'
    go_simp
    with_reducible rfl
  rotate_left
  · simp only [Act.put, List.setIfInBounds_toArray, List.set_cons_zero, List.set_cons_succ, i64_w, i32_w]
    rfl
  refine take_ (i := 2) (N := some 65) (v := ?_) (a' := ?_) #[true, true, true, true, false, true, true, false, false, false] rfl rfl (by kernel_rfl) (fun _ _ _ h => h) (Or.inl ⟨by rfl, ?_⟩) hHeld ?_ ?_
  rotate_left
  · intro w' s0
    go_simp
    with_reducible rfl
  rotate_left
  · simp only [Act.put, List.setIfInBounds_toArray, List.set_cons_zero, List.set_cons_succ, i64_w, i32_w]
    rfl
  refine pure_ (i := 4) (N := some 67) (v := ?_) (a' := ?_) #[true, true, true, true, true, true, true, false, false, false] rfl rfl (by kernel_rfl) (fun _ _ _ h => h) (Or.inl ⟨by rfl, ?_⟩) ?_ ?_
  rotate_left
  · intro w'
    go_simp
    with_reducible rfl
  rotate_left
  · simp only [Act.put, List.setIfInBounds_toArray, List.set_cons_zero, List.set_cons_succ, i64_w, i32_w]
    rfl
  refine last_ (i := 7) (N := none) #[true, true, true, true, true, true, true, true, false, false] rfl rfl (by kernel_rfl) (by decide) (fun K hK => ?_)
  refine skip_ (w1 := ?_) (by rfl) rfl ?_ ?_
  rotate_left
  · go_simp
    rfl
  refine hK.out _ _ ?_
  clear hK K
  refine pure_ (i := 8) (N := some 6) (v := ?_) (a' := ?_) #[true, true, true, true, true, true, true, true, true, false] rfl rfl (by kernel_rfl) (fun _ _ _ h => h) (Or.inl ⟨by rfl, ?_⟩) ?_ ?_
  rotate_left
  · intro w'
    go_simp
    with_reducible rfl
  rotate_left
  · simp only [Act.put, List.setIfInBounds_toArray, List.set_cons_zero, List.set_cons_succ, i64_w, i32_w]
    rfl
  refine pure_ (i := 9) (N := some 7) (v := ?_) (a' := ?_) #[true, true, true, true, true, true, true, true, true, true] rfl rfl (by kernel_rfl) (fun _ _ _ h => h) (Or.inl ⟨by rfl, ?_⟩) ?_ ?_
  rotate_left
  · intro w'
    go_simp
    with_reducible rfl
  rotate_left
  · simp only [Act.put, List.setIfInBounds_toArray, List.set_cons_zero, List.set_cons_succ, i64_w, i32_w]
    rfl
  refine done_ (by kernel_rfl) ?_
  go_wp2
  have q0 := Go.Joins.block_setCell HS.out (i := 0) (.int .i64 at_)
  have q1 := Go.Joins.block_setCell q0 (i := 1) (.int .u16 y_)
  have HR : _ = some (Obj.cells #[.int .i64 at_, .int .u16 y_] 46 (0, 0)) := q1
  exact bodyPost_ret (v := .tuple #[v62, .agg #[.int .i64 at_, .int .u16 y_], .int .i64 s_, .int .i64 0]) (results_tctt (fn := Try.f19) (p := 5) (u := 4) (v := 6) (x := 7) rfl _ _ _ _ _ _ _ rfl HR Try.underlying46 rfl zs) rfl ⟨_, rfl, Kd.R_set (Kd.R_set R62.out HS.out (by decide) _ _) q0 (by decide) _ _, below_set (below_set (by repeat (first | (with_reducible first | exact HB.out | apply below_alloc | apply pw_below_drewN | apply below_drew1) | exact HB.out)) (Nat.le_refl _)) (Nat.le_refl _)⟩
end Go.Proofs.Ytebnodldfddbnaa.Cnt
