/- Chapter 5: a part of its proof (cut by program out of IsaD); no condition. -/
import Derived.Test.YthfobpkdloejfaaGreatDb32
section
namespace Go.Proofs.YthfobpkdloejfaaGreat.PAll
open Go.RowKit Go.Proofs.YthfobpkdloejfaaGreat.Row Go.Proofs.YthfobpkdloejfaaGreatW.PrintWords Go.Proofs.YthfobpkdloejfaaGreatW.PrintLast Go.Proofs.YthfobpkdloejfaaGreatW.PrintMore
set_option linter.unusedVariables false
set_option linter.unusedSimpArgs false
def decC (k : Nat) (a0 : Int) (a1 : Bool) : Option Int := if a1 = true then isa_find.f k a0 20 39 else if a0 = 3 then some 4 else if a0 = 4 then some 3 else if a0 = 6 then some 2 else if a0 = 20495 then some 14 else isa_find.f k a0 1 19
def isa_Decode.f (k : Nat) (a0 : Int) (a1 : Bool) : Option (Int × ByteArray × Bool × Int × Int × Int × Int × Int) := if a0 > 32767 then some (0, (⟨#[]⟩ : ByteArray), false, 0, 0, 0, 0, 3) else if 0 ≤ a0 then ((decC k a0 a1).bind fun c => (isa_Of.f c).bind fun o => (isa_row.f c).bind fun b => some (o.1, o.2.1, o.2.2.1, o.2.2.2.1, o.2.2.2.2.1, o.2.2.2.2.2.1, wrap64 (a0 - b.2.2.1), o.2.2.2.2.2.2)) else none
theorem w64_ {n : Int} (h0 : -9223372036854775808 ≤ n) (h1 : n ≤ 9223372036854775807) : wrap64 n = n := by unfold wrap64; omega
theorem cell_row_far {w : World} {g g' i : Nat} {v : Value} (h : w.cell? ⟨g', i, none⟩ = some v) (hne : g' ≠ g) (cs : Array Value) : (w.setRow g cs).cell? ⟨g', i, none⟩ = some v := (cell_setRow_other w g cs ⟨g', i, none⟩ hne).trans h
set_option maxRecDepth 100000 in
set_option maxHeartbeats 4000000 in
theorem Decode_1 (k : Nat) (a0 : Int) (c : Int) (o1 : Int) (o2 : ByteArray) (o3 : Bool) (o4 o5 o6 o7 : Int) (b1 : ByteArray) (b2 b3 b4 : Int) (h0 : 0 ≤ a0) (h1 : a0 ≤ 32767) (hf : isa_find.f k a0 20 39 = some c) (ho : isa_Of.f c = some (o1, o2, o3, o4, o5, o6, o7)) (hr : isa_row.f c = some (b1, b2, b3, b4)) (w : World) :
    Calls Tryz.prog 45 #[.int .u16 a0, .bool true] w fun e w' => e = .returned (.tuple #[.agg #[.int .u8 o1, .string o2, .bool o3, .int .u8 o4, .int .i64 o5, .int .i64 o6], .int .i64 (wrap64 (a0 - b3)), .int .i64 o7]) ∧ Below w.heap.size w w' := by
  have HB0 := Aside0.mk (Below.refl w.heap.size w)
  have HB := HB0
  have c0 : decide (32767 < a0) = false := decide_eq_false (by omega)
  have e0 : wrap64 a0 = a0 := w64_ (by omega) (by omega)
  have FD := Aside0.mk hf
  clear h0 h1 hf
  have OF := Aside0.mk ho
  have RW := Aside0.mk hr
  clear ho hr
  go_enter Tryz.func45, Tryz.ntmps45
  go_upto_region 13 with (first | ((with_reducible refine gate_dst (N := 4) rfl ?_); refine box_event ?hg (N := 4) ?hd (cs := #[.int .u8 0, .string (⟨#[]⟩ : ByteArray), .bool false, .int .u8 0, .int .i64 0, .int .i64 0]) (t := 41) ?hr ?_; (case hd => rfl); (case hg => rfl); (case hr => kernel_rfl); intro g hg w4 K hb; have HB := Aside0.mk (below_step HB.out hb); have K4 := Aside0.mk K; have L4 := Aside0.mk (show w.heap.size ≤ g from by rw [hg]; exact HB0.out.size); clear K hb hg HB0) | (go_at_call 77; (with_reducible refine (isa_find.calls k a0 20 39 c _ FD.out).mono ?_); rintro e wf ⟨rfl, hb⟩; replace HB := Aside0.mk (below_step HB.out hb); replace K4 := Aside0.mk (blk_below K4.out hb); clear hb))
  have HB0 := HB
  go_upto_region 14 with (first | (go_at_call 78; (with_reducible refine (isa_Of.calls _ _ _ _ _ _ _ _ _ OF.out).mono ?_); rintro e wo ⟨rfl, hb⟩; replace HB := Aside0.mk (below_step HB.out hb); replace K4 := Aside0.mk (blk_below K4.out hb); replace HB0 := HB; clear hb) | ((with_reducible refine gate_dst (N := 8) rfl ?_); refine box_event ?hg (N := 8) ?hd (cs := #[.int .u8 0, .string (⟨#[]⟩ : ByteArray), .bool false, .int .u8 0, .int .i64 0, .int .i64 0]) (t := 41) ?hr ?_; (case hd => rfl); (case hg => rfl); (case hr => kernel_rfl); intro g8 hg w8 K hb; replace HB := Aside0.mk (below_step HB.out hb); have K8 := Aside0.mk K; have NE := Aside0.mk (show g8 ≠ g from by have := blk_lt K4.out; rw [hg]; omega); have L8 := Aside0.mk (show w.heap.size ≤ g8 from by rw [hg]; exact HB0.out.size); replace K4 := Aside0.mk (blk_below K4.out hb); clear K hb hg HB0) | (refine store_row_ rfl 41 (.tmp 8) (.tmp 37) rfl g8 rfl 41 _ #[.int .u8 o1, .string o2, .bool o3, .int .u8 o4, .int .i64 o5, .int .i64 o6] rfl K8.out ?hi ?hs ?h1 ?_; (case hi => kernel_rfl); (case hs => rfl); (case h1 => kernel_rfl)))
  replace HB := Aside0.mk (below_setRow HB.out L8.out #[.int .u8 o1, .string o2, .bool o3, .int .u8 o4, .int .i64 o5, .int .i64 o6])
  replace K4 := Aside0.mk (blk_row_far K4.out NE.out.symm #[.int .u8 o1, .string o2, .bool o3, .int .u8 o4, .int .i64 o5, .int .i64 o6])
  have K8b := Aside0.mk (blk_row K8.out #[.int .u8 o1, .string o2, .bool o3, .int .u8 o4, .int .i64 o5, .int .i64 o6])
  clear K8
  generalize World.setRow _ g8 #[.int .u8 o1, .string o2, .bool o3, .int .u8 o4, .int .i64 o5, .int .i64 o6] = wr at HB K4 K8b ⊢
  have x0 : wr.cell? ⟨g8, 0, none⟩ = some (.int .u8 o1) := (blk_cell K8b.out 0).trans rfl
  have x1 : wr.cell? ⟨g8, 1, none⟩ = some (.string o2) := (blk_cell K8b.out 1).trans rfl
  have x2 : wr.cell? ⟨g8, 2, none⟩ = some (.bool o3) := (blk_cell K8b.out 2).trans rfl
  have x3 : wr.cell? ⟨g8, 3, none⟩ = some (.int .u8 o4) := (blk_cell K8b.out 3).trans rfl
  have x4 : wr.cell? ⟨g8, 4, none⟩ = some (.int .i64 o5) := (blk_cell K8b.out 4).trans rfl
  have x5 : wr.cell? ⟨g8, 5, none⟩ = some (.int .i64 o6) := (blk_cell K8b.out 5).trans rfl
  have hfld := fld57_2
  refine start_ (n := 11) (S := fun w' => w'.cell? ⟨g8, 0, none⟩ = some (.int .u8 o1) ∧ w'.cell? ⟨g8, 1, none⟩ = some (.string o2) ∧ w'.cell? ⟨g8, 2, none⟩ = some (.bool o3) ∧ w'.cell? ⟨g8, 3, none⟩ = some (.int .u8 o4) ∧ w'.cell? ⟨g8, 4, none⟩ = some (.int .i64 o5) ∧ w'.cell? ⟨g8, 5, none⟩ = some (.int .i64 o6)) (ds := []) #[false, false, false, false, false, false, false, false, false, false, false] (by kernel_rfl) rfl rfl ⟨x0, x1, x2, x3, x4, x5⟩ (fun hHeld => ?_)
  replace HB : Aside0 (Below w.heap.size w wr.drew) := ⟨below_drew1 HB.out⟩
  replace K4 : Aside0 (wr.drew.heap[g]? = some (.cells #[.int .u8 0, .string (⟨#[]⟩ : ByteArray), .bool false, .int .u8 0, .int .i64 0, .int .i64 0] 41 (0, 0))) := ⟨blk_drew K4.out⟩
  change wr.drew.cell? _ = _ at x0
  change wr.drew.cell? _ = _ at x1
  change wr.drew.cell? _ = _ at x2
  change wr.drew.cell? _ = _ at x3
  change wr.drew.cell? _ = _ at x4
  change wr.drew.cell? _ = _ at x5
  generalize wr.drew = wd at HB K4 x0 x1 x2 x3 x4 x5 hHeld ⊢
  refine pure_ (i := 1) (N := some 40) (v := ?_) (a' := ?_) #[false, true, false, false, false, false, false, false, false, false, false] rfl rfl (by kernel_rfl) (fun _ _ _ h => h) (Or.inl ⟨by rfl, ?_⟩) ?_ ?_
  rotate_left
  · intro w'
    go_simp
    with_reducible rfl
  rotate_left
  · simp only [Act.put, List.setIfInBounds_toArray, List.set_cons_zero, List.set_cons_succ, i64_w, i32_w]
    rfl
  refine pure_ (i := 2) (N := some 41) (v := ?_) (a' := ?_) #[false, true, true, false, false, false, false, false, false, false, false] rfl rfl (by kernel_rfl) (fun _ _ _ h => h) (Or.inl ⟨by rfl, ?_⟩) ?_ ?_
  rotate_left
  · intro w'
    go_simp
    with_reducible rfl
  rotate_left
  · simp only [Act.put, List.setIfInBounds_toArray, List.set_cons_zero, List.set_cons_succ, i64_w, i32_w]
    rfl
  refine pure_ (i := 3) (N := some 42) (v := ?_) (a' := ?_) #[false, true, true, true, false, false, false, false, false, false, false] rfl rfl (by kernel_rfl) (fun _ _ _ h => h) (Or.inl ⟨by rfl, ?_⟩) ?_ ?_
  rotate_left
  · intro w'
    go_simp
    with_reducible rfl
  rotate_left
  · simp only [Act.put, List.setIfInBounds_toArray, List.set_cons_zero, List.set_cons_succ, i64_w, i32_w]
    rfl
  refine pure_ (i := 7) (N := some 46) (v := ?_) (a' := ?_) #[false, true, true, true, false, false, false, true, false, false, false] rfl rfl (by kernel_rfl) (fun _ _ _ h => h) (Or.inl ⟨by rfl, ?_⟩) ?_ ?_
  rotate_left
  · intro w'
    go_simp
    with_reducible rfl
  rotate_left
  · simp only [Act.put, List.setIfInBounds_toArray, List.set_cons_zero, List.set_cons_succ, i64_w, i32_w]
    rfl
  refine take_ (i := 0) (N := some 39) (v := ?_) (a' := ?_) #[true, true, true, true, false, false, false, true, false, false, false] rfl rfl (by kernel_rfl) (fun _ _ _ h => h) (Or.inl ⟨by rfl, ?_⟩) hHeld ?_ ?_
  rotate_left
  · rintro w' ⟨s0, s1, s2, s3, s4, s5⟩
    go_simp
    with_reducible rfl
  rotate_left
  · simp only [Act.put, List.setIfInBounds_toArray, List.set_cons_zero, List.set_cons_succ, i64_w, i32_w]
    rfl
  refine one_ (i := 4) (N := some 43) #[true, true, true, true, true, false, false, true, false, false, false] rfl rfl (by kernel_rfl) (by decide) (fun K hK => ?_)
  refine goes_ Tryz.func79 (by kernel_rfl) rfl #[.int .u8 c] (by rfl) rfl rfl (by simp only [List.map_toArray, List.map_cons, List.map_nil]; rfl) ?_
  with_reducible refine (isa_row.calls _ _ _ _ _ _ RW.out).mono ?_
  rintro e w2 ⟨rfl, hbz⟩
  refine ⟨_, rfl, ?_⟩
  replace x0 := (hbz.cell (World.block_lt_of_cell? _ _ x0)).trans x0
  replace x1 := (hbz.cell (World.block_lt_of_cell? _ _ x1)).trans x1
  replace x2 := (hbz.cell (World.block_lt_of_cell? _ _ x2)).trans x2
  replace x3 := (hbz.cell (World.block_lt_of_cell? _ _ x3)).trans x3
  replace x4 := (hbz.cell (World.block_lt_of_cell? _ _ x4)).trans x4
  replace x5 := (hbz.cell (World.block_lt_of_cell? _ _ x5)).trans x5
  replace K4 := Aside0.mk (blk_below K4.out hbz)
  replace HB := Aside0.mk (below_step HB.out hbz)
  clear hbz
  refine hK.out _ _ ⟨x0, x1, x2, x3, x4, x5⟩ (fun hHeld => ?_)
  clear hK K
  refine norm_ (a' := ?_) ?_ ?_
  rotate_left
  · show Act.put _ (some 43) _ = _
    simp only [Act.put, List.setIfInBounds_toArray, List.set_cons_zero, List.set_cons_succ, i64_w, i32_w]
    rfl
  refine pure_ (i := 5) (N := some 44) (v := ?_) (a' := ?_) #[true, true, true, true, true, true, false, true, false, false, false] rfl rfl (by kernel_rfl) (fun _ _ _ h => h) (Or.inl ⟨by rfl, ?_⟩) ?_ ?_
  rotate_left
  · intro w'
    go_simp
    with_reducible rfl
  rotate_left
  · simp only [Act.put, List.setIfInBounds_toArray, List.set_cons_zero, List.set_cons_succ, i64_w, i32_w]
    rfl
  refine pure_ (i := 6) (N := some 45) (v := ?_) (a' := ?_) #[true, true, true, true, true, true, true, true, false, false, false] rfl rfl (by kernel_rfl) (fun _ _ _ h => h) (Or.inl ⟨by rfl, ?_⟩) ?_ ?_
  rotate_left
  · intro w'
    go_simp
    with_reducible rfl
  rotate_left
  · simp only [Act.put, List.setIfInBounds_toArray, List.set_cons_zero, List.set_cons_succ, i64_w, i32_w]
    rfl
  refine one_ (i := 8) (N := none) #[true, true, true, true, true, true, true, true, true, false, false] rfl rfl (by kernel_rfl) (by decide) (fun K hK => ?_)
  refine skip_ (w1 := World.setRow w2 g #[.int .u8 o1, .string o2, .bool o3, .int .u8 o4, .int .i64 o5, .int .i64 o6]) (by rfl) rfl ?_ ?_
  · refine run_store_row 41 (.tmp 4) (.tmp 39) ?_ g ?_ 41 _ #[.int .u8 o1, .string o2, .bool o3, .int .u8 o4, .int .i64 o5, .int .i64 o6] ?_ K4.out (by kernel_rfl) rfl (by kernel_rfl)
    · rfl
    · rfl
    · rfl
  replace HB := Aside0.mk (below_setRow HB.out L4.out #[.int .u8 o1, .string o2, .bool o3, .int .u8 o4, .int .i64 o5, .int .i64 o6])
  replace K4 := Aside0.mk (blk_row K4.out #[.int .u8 o1, .string o2, .bool o3, .int .u8 o4, .int .i64 o5, .int .i64 o6])
  replace x0 := (cell_row_far x0 NE.out #[.int .u8 o1, .string o2, .bool o3, .int .u8 o4, .int .i64 o5, .int .i64 o6])
  replace x1 := (cell_row_far x1 NE.out #[.int .u8 o1, .string o2, .bool o3, .int .u8 o4, .int .i64 o5, .int .i64 o6])
  replace x2 := (cell_row_far x2 NE.out #[.int .u8 o1, .string o2, .bool o3, .int .u8 o4, .int .i64 o5, .int .i64 o6])
  replace x3 := (cell_row_far x3 NE.out #[.int .u8 o1, .string o2, .bool o3, .int .u8 o4, .int .i64 o5, .int .i64 o6])
  replace x4 := (cell_row_far x4 NE.out #[.int .u8 o1, .string o2, .bool o3, .int .u8 o4, .int .i64 o5, .int .i64 o6])
  replace x5 := (cell_row_far x5 NE.out #[.int .u8 o1, .string o2, .bool o3, .int .u8 o4, .int .i64 o5, .int .i64 o6])
  refine hK.out _ _ ⟨x0, x1, x2, x3, x4, x5⟩ (fun hHeld => ?_)
  clear hK K
  refine pure_ (i := 9) (N := some 5) (v := ?_) (a' := ?_) #[true, true, true, true, true, true, true, true, true, true, false] rfl rfl (by kernel_rfl) (fun _ _ _ h => h) (Or.inl ⟨by rfl, ?_⟩) ?_ ?_
  rotate_left
  · intro w'
    go_simp
    with_reducible rfl
  rotate_left
  · simp only [Act.put, List.setIfInBounds_toArray, List.set_cons_zero, List.set_cons_succ, i64_w, i32_w]
    rfl
  refine pure_ (i := 10) (N := some 6) (v := ?_) (a' := ?_) #[true, true, true, true, true, true, true, true, true, true, true] rfl rfl (by kernel_rfl) (fun _ _ _ h => h) (Or.inl ⟨by rfl, ?_⟩) ?_ ?_
  rotate_left
  · intro w'
    go_simp
    with_reducible rfl
  rotate_left
  · simp only [Act.put, List.setIfInBounds_toArray, List.set_cons_zero, List.set_cons_succ, i64_w, i32_w]
    rfl
  refine done_ (by kernel_rfl) ?_
  go_wp2
  refine bodyPost_ret (results_list (rs := [.cell 4 41, .tmp 5, .tmp 6]) rfl (by simp) (.cell g 41 #[.int .u8 o1, .string o2, .bool o3, .int .u8 o4, .int .i64 o5, .int .i64 o6] (0, 0) _ rfl K4.out Tryz.underlying41 rfl (by kernel_rfl) (.tmp (.tmp .nil)))) rfl ⟨rfl, HB.out⟩
set_option maxRecDepth 100000 in
set_option maxHeartbeats 4000000 in
theorem Decode_w3 (o1 : Int) (o2 : ByteArray) (o3 : Bool) (o4 o5 o6 o7 : Int) (b1 : ByteArray) (b2 b3 b4 : Int)  (ho : isa_Of.f 4 = some (o1, o2, o3, o4, o5, o6, o7)) (hr : isa_row.f 4 = some (b1, b2, b3, b4)) (w : World) :
    Calls Tryz.prog 45 #[.int .u16 3, .bool false] w fun e w' => e = .returned (.tuple #[.agg #[.int .u8 o1, .string o2, .bool o3, .int .u8 o4, .int .i64 o5, .int .i64 o6], .int .i64 (wrap64 (3 - b3)), .int .i64 o7]) ∧ Below w.heap.size w w' := by
  have HB0 := Aside0.mk (Below.refl w.heap.size w)
  have HB := HB0
  have e0 : wrap64 3 = 3 := w64_ (by decide) (by decide)
  have OF := Aside0.mk ho
  have RW := Aside0.mk hr
  clear ho hr
  go_enter Tryz.func45, Tryz.ntmps45
  go_upto_region 13 with (first | ((with_reducible refine gate_dst (N := 4) rfl ?_); refine box_event ?hg (N := 4) ?hd (cs := #[.int .u8 0, .string (⟨#[]⟩ : ByteArray), .bool false, .int .u8 0, .int .i64 0, .int .i64 0]) (t := 41) ?hr ?_; (case hd => rfl); (case hg => rfl); (case hr => kernel_rfl); intro g hg w4 K hb; have HB := Aside0.mk (below_step HB.out hb); have K4 := Aside0.mk K; have L4 := Aside0.mk (show w.heap.size ≤ g from by rw [hg]; exact HB0.out.size); clear K hb hg HB0) | ((with_reducible refine gate_dst (N := 28) rfl ?_); refine Kd.event_run (v := .agg #[.int .u8 0, .int .u8 0, .int .u8 0, .int .u8 4, .int .u8 3, .int .u8 0, .int .u8 2]) (w1 := w4) rfl ?hr2 ?_; (case hr2 => kernel_rfl)) | ((with_reducible refine gate_dst (N := 30) rfl ?_); refine Kd.event_run (v := .int .u8 4) (w1 := w4) rfl ?hr2 ?_; (case hr2 => kernel_rfl)))
  have HB0 := HB
  go_upto_region 14 with (first | (go_at_call 78; (with_reducible refine (isa_Of.calls _ _ _ _ _ _ _ _ _ OF.out).mono ?_); rintro e wo ⟨rfl, hb⟩; replace HB := Aside0.mk (below_step HB.out hb); replace K4 := Aside0.mk (blk_below K4.out hb); replace HB0 := HB; clear hb) | ((with_reducible refine gate_dst (N := 8) rfl ?_); refine box_event ?hg (N := 8) ?hd (cs := #[.int .u8 0, .string (⟨#[]⟩ : ByteArray), .bool false, .int .u8 0, .int .i64 0, .int .i64 0]) (t := 41) ?hr ?_; (case hd => rfl); (case hg => rfl); (case hr => kernel_rfl); intro g8 hg w8 K hb; replace HB := Aside0.mk (below_step HB.out hb); have K8 := Aside0.mk K; have NE := Aside0.mk (show g8 ≠ g from by have := blk_lt K4.out; rw [hg]; omega); have L8 := Aside0.mk (show w.heap.size ≤ g8 from by rw [hg]; exact HB0.out.size); replace K4 := Aside0.mk (blk_below K4.out hb); clear K hb hg HB0) | (refine store_row_ rfl 41 (.tmp 8) (.tmp 37) rfl g8 rfl 41 _ #[.int .u8 o1, .string o2, .bool o3, .int .u8 o4, .int .i64 o5, .int .i64 o6] rfl K8.out ?hi ?hs ?h1 ?_; (case hi => kernel_rfl); (case hs => rfl); (case h1 => kernel_rfl)))
  replace HB := Aside0.mk (below_setRow HB.out L8.out #[.int .u8 o1, .string o2, .bool o3, .int .u8 o4, .int .i64 o5, .int .i64 o6])
  replace K4 := Aside0.mk (blk_row_far K4.out NE.out.symm #[.int .u8 o1, .string o2, .bool o3, .int .u8 o4, .int .i64 o5, .int .i64 o6])
  have K8b := Aside0.mk (blk_row K8.out #[.int .u8 o1, .string o2, .bool o3, .int .u8 o4, .int .i64 o5, .int .i64 o6])
  clear K8
  generalize World.setRow _ g8 #[.int .u8 o1, .string o2, .bool o3, .int .u8 o4, .int .i64 o5, .int .i64 o6] = wr at HB K4 K8b ⊢
  have x0 : wr.cell? ⟨g8, 0, none⟩ = some (.int .u8 o1) := (blk_cell K8b.out 0).trans rfl
  have x1 : wr.cell? ⟨g8, 1, none⟩ = some (.string o2) := (blk_cell K8b.out 1).trans rfl
  have x2 : wr.cell? ⟨g8, 2, none⟩ = some (.bool o3) := (blk_cell K8b.out 2).trans rfl
  have x3 : wr.cell? ⟨g8, 3, none⟩ = some (.int .u8 o4) := (blk_cell K8b.out 3).trans rfl
  have x4 : wr.cell? ⟨g8, 4, none⟩ = some (.int .i64 o5) := (blk_cell K8b.out 4).trans rfl
  have x5 : wr.cell? ⟨g8, 5, none⟩ = some (.int .i64 o6) := (blk_cell K8b.out 5).trans rfl
  have hfld := fld57_2
  refine start_ (n := 11) (S := fun w' => w'.cell? ⟨g8, 0, none⟩ = some (.int .u8 o1) ∧ w'.cell? ⟨g8, 1, none⟩ = some (.string o2) ∧ w'.cell? ⟨g8, 2, none⟩ = some (.bool o3) ∧ w'.cell? ⟨g8, 3, none⟩ = some (.int .u8 o4) ∧ w'.cell? ⟨g8, 4, none⟩ = some (.int .i64 o5) ∧ w'.cell? ⟨g8, 5, none⟩ = some (.int .i64 o6)) (ds := []) #[false, false, false, false, false, false, false, false, false, false, false] (by kernel_rfl) rfl rfl ⟨x0, x1, x2, x3, x4, x5⟩ (fun hHeld => ?_)
  replace HB : Aside0 (Below w.heap.size w wr.drew) := ⟨below_drew1 HB.out⟩
  replace K4 : Aside0 (wr.drew.heap[g]? = some (.cells #[.int .u8 0, .string (⟨#[]⟩ : ByteArray), .bool false, .int .u8 0, .int .i64 0, .int .i64 0] 41 (0, 0))) := ⟨blk_drew K4.out⟩
  change wr.drew.cell? _ = _ at x0
  change wr.drew.cell? _ = _ at x1
  change wr.drew.cell? _ = _ at x2
  change wr.drew.cell? _ = _ at x3
  change wr.drew.cell? _ = _ at x4
  change wr.drew.cell? _ = _ at x5
  generalize wr.drew = wd at HB K4 x0 x1 x2 x3 x4 x5 hHeld ⊢
  refine pure_ (i := 1) (N := some 40) (v := ?_) (a' := ?_) #[false, true, false, false, false, false, false, false, false, false, false] rfl rfl (by kernel_rfl) (fun _ _ _ h => h) (Or.inl ⟨by rfl, ?_⟩) ?_ ?_
  rotate_left
  · intro w'
    go_simp
    with_reducible rfl
  rotate_left
  · simp only [Act.put, List.setIfInBounds_toArray, List.set_cons_zero, List.set_cons_succ, i64_w, i32_w]
    rfl
  refine pure_ (i := 2) (N := some 41) (v := ?_) (a' := ?_) #[false, true, true, false, false, false, false, false, false, false, false] rfl rfl (by kernel_rfl) (fun _ _ _ h => h) (Or.inl ⟨by rfl, ?_⟩) ?_ ?_
  rotate_left
  · intro w'
    go_simp
    with_reducible rfl
  rotate_left
  · simp only [Act.put, List.setIfInBounds_toArray, List.set_cons_zero, List.set_cons_succ, i64_w, i32_w]
    rfl
  refine pure_ (i := 3) (N := some 42) (v := ?_) (a' := ?_) #[false, true, true, true, false, false, false, false, false, false, false] rfl rfl (by kernel_rfl) (fun _ _ _ h => h) (Or.inl ⟨by rfl, ?_⟩) ?_ ?_
  rotate_left
  · intro w'
    go_simp
    with_reducible rfl
  rotate_left
  · simp only [Act.put, List.setIfInBounds_toArray, List.set_cons_zero, List.set_cons_succ, i64_w, i32_w]
    rfl
  refine pure_ (i := 7) (N := some 46) (v := ?_) (a' := ?_) #[false, true, true, true, false, false, false, true, false, false, false] rfl rfl (by kernel_rfl) (fun _ _ _ h => h) (Or.inl ⟨by rfl, ?_⟩) ?_ ?_
  rotate_left
  · intro w'
    go_simp
    with_reducible rfl
  rotate_left
  · simp only [Act.put, List.setIfInBounds_toArray, List.set_cons_zero, List.set_cons_succ, i64_w, i32_w]
    rfl
  refine take_ (i := 0) (N := some 39) (v := ?_) (a' := ?_) #[true, true, true, true, false, false, false, true, false, false, false] rfl rfl (by kernel_rfl) (fun _ _ _ h => h) (Or.inl ⟨by rfl, ?_⟩) hHeld ?_ ?_
  rotate_left
  · rintro w' ⟨s0, s1, s2, s3, s4, s5⟩
    go_simp
    with_reducible rfl
  rotate_left
  · simp only [Act.put, List.setIfInBounds_toArray, List.set_cons_zero, List.set_cons_succ, i64_w, i32_w]
    rfl
  refine one_ (i := 4) (N := some 43) #[true, true, true, true, true, false, false, true, false, false, false] rfl rfl (by kernel_rfl) (by decide) (fun K hK => ?_)
  refine goes_ Tryz.func79 (by kernel_rfl) rfl #[.int .u8 4] (by rfl) rfl rfl (by simp only [List.map_toArray, List.map_cons, List.map_nil]; rfl) ?_
  with_reducible refine (isa_row.calls _ _ _ _ _ _ RW.out).mono ?_
  rintro e w2 ⟨rfl, hbz⟩
  refine ⟨_, rfl, ?_⟩
  replace x0 := (hbz.cell (World.block_lt_of_cell? _ _ x0)).trans x0
  replace x1 := (hbz.cell (World.block_lt_of_cell? _ _ x1)).trans x1
  replace x2 := (hbz.cell (World.block_lt_of_cell? _ _ x2)).trans x2
  replace x3 := (hbz.cell (World.block_lt_of_cell? _ _ x3)).trans x3
  replace x4 := (hbz.cell (World.block_lt_of_cell? _ _ x4)).trans x4
  replace x5 := (hbz.cell (World.block_lt_of_cell? _ _ x5)).trans x5
  replace K4 := Aside0.mk (blk_below K4.out hbz)
  replace HB := Aside0.mk (below_step HB.out hbz)
  clear hbz
  refine hK.out _ _ ⟨x0, x1, x2, x3, x4, x5⟩ (fun hHeld => ?_)
  clear hK K
  refine norm_ (a' := ?_) ?_ ?_
  rotate_left
  · show Act.put _ (some 43) _ = _
    simp only [Act.put, List.setIfInBounds_toArray, List.set_cons_zero, List.set_cons_succ, i64_w, i32_w]
    rfl
  refine pure_ (i := 5) (N := some 44) (v := ?_) (a' := ?_) #[true, true, true, true, true, true, false, true, false, false, false] rfl rfl (by kernel_rfl) (fun _ _ _ h => h) (Or.inl ⟨by rfl, ?_⟩) ?_ ?_
  rotate_left
  · intro w'
    go_simp
    with_reducible rfl
  rotate_left
  · simp only [Act.put, List.setIfInBounds_toArray, List.set_cons_zero, List.set_cons_succ, i64_w, i32_w]
    rfl
  refine pure_ (i := 6) (N := some 45) (v := ?_) (a' := ?_) #[true, true, true, true, true, true, true, true, false, false, false] rfl rfl (by kernel_rfl) (fun _ _ _ h => h) (Or.inl ⟨by rfl, ?_⟩) ?_ ?_
  rotate_left
  · intro w'
    go_simp
    with_reducible rfl
  rotate_left
  · simp only [Act.put, List.setIfInBounds_toArray, List.set_cons_zero, List.set_cons_succ, i64_w, i32_w]
    rfl
  refine one_ (i := 8) (N := none) #[true, true, true, true, true, true, true, true, true, false, false] rfl rfl (by kernel_rfl) (by decide) (fun K hK => ?_)
  refine skip_ (w1 := World.setRow w2 g #[.int .u8 o1, .string o2, .bool o3, .int .u8 o4, .int .i64 o5, .int .i64 o6]) (by rfl) rfl ?_ ?_
  · refine run_store_row 41 (.tmp 4) (.tmp 39) ?_ g ?_ 41 _ #[.int .u8 o1, .string o2, .bool o3, .int .u8 o4, .int .i64 o5, .int .i64 o6] ?_ K4.out (by kernel_rfl) rfl (by kernel_rfl)
    · rfl
    · rfl
    · rfl
  replace HB := Aside0.mk (below_setRow HB.out L4.out #[.int .u8 o1, .string o2, .bool o3, .int .u8 o4, .int .i64 o5, .int .i64 o6])
  replace K4 := Aside0.mk (blk_row K4.out #[.int .u8 o1, .string o2, .bool o3, .int .u8 o4, .int .i64 o5, .int .i64 o6])
  replace x0 := (cell_row_far x0 NE.out #[.int .u8 o1, .string o2, .bool o3, .int .u8 o4, .int .i64 o5, .int .i64 o6])
  replace x1 := (cell_row_far x1 NE.out #[.int .u8 o1, .string o2, .bool o3, .int .u8 o4, .int .i64 o5, .int .i64 o6])
  replace x2 := (cell_row_far x2 NE.out #[.int .u8 o1, .string o2, .bool o3, .int .u8 o4, .int .i64 o5, .int .i64 o6])
  replace x3 := (cell_row_far x3 NE.out #[.int .u8 o1, .string o2, .bool o3, .int .u8 o4, .int .i64 o5, .int .i64 o6])
  replace x4 := (cell_row_far x4 NE.out #[.int .u8 o1, .string o2, .bool o3, .int .u8 o4, .int .i64 o5, .int .i64 o6])
  replace x5 := (cell_row_far x5 NE.out #[.int .u8 o1, .string o2, .bool o3, .int .u8 o4, .int .i64 o5, .int .i64 o6])
  refine hK.out _ _ ⟨x0, x1, x2, x3, x4, x5⟩ (fun hHeld => ?_)
  clear hK K
  refine pure_ (i := 9) (N := some 5) (v := ?_) (a' := ?_) #[true, true, true, true, true, true, true, true, true, true, false] rfl rfl (by kernel_rfl) (fun _ _ _ h => h) (Or.inl ⟨by rfl, ?_⟩) ?_ ?_
  rotate_left
  · intro w'
    go_simp
    with_reducible rfl
  rotate_left
  · simp only [Act.put, List.setIfInBounds_toArray, List.set_cons_zero, List.set_cons_succ, i64_w, i32_w]
    rfl
  refine pure_ (i := 10) (N := some 6) (v := ?_) (a' := ?_) #[true, true, true, true, true, true, true, true, true, true, true] rfl rfl (by kernel_rfl) (fun _ _ _ h => h) (Or.inl ⟨by rfl, ?_⟩) ?_ ?_
  rotate_left
  · intro w'
    go_simp
    with_reducible rfl
  rotate_left
  · simp only [Act.put, List.setIfInBounds_toArray, List.set_cons_zero, List.set_cons_succ, i64_w, i32_w]
    rfl
  refine done_ (by kernel_rfl) ?_
  go_wp2
  refine bodyPost_ret (results_list (rs := [.cell 4 41, .tmp 5, .tmp 6]) rfl (by simp) (.cell g 41 #[.int .u8 o1, .string o2, .bool o3, .int .u8 o4, .int .i64 o5, .int .i64 o6] (0, 0) _ rfl K4.out Tryz.underlying41 rfl (by kernel_rfl) (.tmp (.tmp .nil)))) rfl ⟨rfl, HB.out⟩
set_option maxRecDepth 100000 in
set_option maxHeartbeats 4000000 in
theorem Decode_w4 (o1 : Int) (o2 : ByteArray) (o3 : Bool) (o4 o5 o6 o7 : Int) (b1 : ByteArray) (b2 b3 b4 : Int)  (ho : isa_Of.f 3 = some (o1, o2, o3, o4, o5, o6, o7)) (hr : isa_row.f 3 = some (b1, b2, b3, b4)) (w : World) :
    Calls Tryz.prog 45 #[.int .u16 4, .bool false] w fun e w' => e = .returned (.tuple #[.agg #[.int .u8 o1, .string o2, .bool o3, .int .u8 o4, .int .i64 o5, .int .i64 o6], .int .i64 (wrap64 (4 - b3)), .int .i64 o7]) ∧ Below w.heap.size w w' := by
  have HB0 := Aside0.mk (Below.refl w.heap.size w)
  have HB := HB0
  have e0 : wrap64 4 = 4 := w64_ (by decide) (by decide)
  have OF := Aside0.mk ho
  have RW := Aside0.mk hr
  clear ho hr
  go_enter Tryz.func45, Tryz.ntmps45
  go_upto_region 13 with (first | ((with_reducible refine gate_dst (N := 4) rfl ?_); refine box_event ?hg (N := 4) ?hd (cs := #[.int .u8 0, .string (⟨#[]⟩ : ByteArray), .bool false, .int .u8 0, .int .i64 0, .int .i64 0]) (t := 41) ?hr ?_; (case hd => rfl); (case hg => rfl); (case hr => kernel_rfl); intro g hg w4 K hb; have HB := Aside0.mk (below_step HB.out hb); have K4 := Aside0.mk K; have L4 := Aside0.mk (show w.heap.size ≤ g from by rw [hg]; exact HB0.out.size); clear K hb hg HB0) | ((with_reducible refine gate_dst (N := 28) rfl ?_); refine Kd.event_run (v := .agg #[.int .u8 0, .int .u8 0, .int .u8 0, .int .u8 4, .int .u8 3, .int .u8 0, .int .u8 2]) (w1 := w4) rfl ?hr2 ?_; (case hr2 => kernel_rfl)) | ((with_reducible refine gate_dst (N := 30) rfl ?_); refine Kd.event_run (v := .int .u8 3) (w1 := w4) rfl ?hr2 ?_; (case hr2 => kernel_rfl)))
  have HB0 := HB
  go_upto_region 14 with (first | (go_at_call 78; (with_reducible refine (isa_Of.calls _ _ _ _ _ _ _ _ _ OF.out).mono ?_); rintro e wo ⟨rfl, hb⟩; replace HB := Aside0.mk (below_step HB.out hb); replace K4 := Aside0.mk (blk_below K4.out hb); replace HB0 := HB; clear hb) | ((with_reducible refine gate_dst (N := 8) rfl ?_); refine box_event ?hg (N := 8) ?hd (cs := #[.int .u8 0, .string (⟨#[]⟩ : ByteArray), .bool false, .int .u8 0, .int .i64 0, .int .i64 0]) (t := 41) ?hr ?_; (case hd => rfl); (case hg => rfl); (case hr => kernel_rfl); intro g8 hg w8 K hb; replace HB := Aside0.mk (below_step HB.out hb); have K8 := Aside0.mk K; have NE := Aside0.mk (show g8 ≠ g from by have := blk_lt K4.out; rw [hg]; omega); have L8 := Aside0.mk (show w.heap.size ≤ g8 from by rw [hg]; exact HB0.out.size); replace K4 := Aside0.mk (blk_below K4.out hb); clear K hb hg HB0) | (refine store_row_ rfl 41 (.tmp 8) (.tmp 37) rfl g8 rfl 41 _ #[.int .u8 o1, .string o2, .bool o3, .int .u8 o4, .int .i64 o5, .int .i64 o6] rfl K8.out ?hi ?hs ?h1 ?_; (case hi => kernel_rfl); (case hs => rfl); (case h1 => kernel_rfl)))
  replace HB := Aside0.mk (below_setRow HB.out L8.out #[.int .u8 o1, .string o2, .bool o3, .int .u8 o4, .int .i64 o5, .int .i64 o6])
  replace K4 := Aside0.mk (blk_row_far K4.out NE.out.symm #[.int .u8 o1, .string o2, .bool o3, .int .u8 o4, .int .i64 o5, .int .i64 o6])
  have K8b := Aside0.mk (blk_row K8.out #[.int .u8 o1, .string o2, .bool o3, .int .u8 o4, .int .i64 o5, .int .i64 o6])
  clear K8
  generalize World.setRow _ g8 #[.int .u8 o1, .string o2, .bool o3, .int .u8 o4, .int .i64 o5, .int .i64 o6] = wr at HB K4 K8b ⊢
  have x0 : wr.cell? ⟨g8, 0, none⟩ = some (.int .u8 o1) := (blk_cell K8b.out 0).trans rfl
  have x1 : wr.cell? ⟨g8, 1, none⟩ = some (.string o2) := (blk_cell K8b.out 1).trans rfl
  have x2 : wr.cell? ⟨g8, 2, none⟩ = some (.bool o3) := (blk_cell K8b.out 2).trans rfl
  have x3 : wr.cell? ⟨g8, 3, none⟩ = some (.int .u8 o4) := (blk_cell K8b.out 3).trans rfl
  have x4 : wr.cell? ⟨g8, 4, none⟩ = some (.int .i64 o5) := (blk_cell K8b.out 4).trans rfl
  have x5 : wr.cell? ⟨g8, 5, none⟩ = some (.int .i64 o6) := (blk_cell K8b.out 5).trans rfl
  have hfld := fld57_2
  refine start_ (n := 11) (S := fun w' => w'.cell? ⟨g8, 0, none⟩ = some (.int .u8 o1) ∧ w'.cell? ⟨g8, 1, none⟩ = some (.string o2) ∧ w'.cell? ⟨g8, 2, none⟩ = some (.bool o3) ∧ w'.cell? ⟨g8, 3, none⟩ = some (.int .u8 o4) ∧ w'.cell? ⟨g8, 4, none⟩ = some (.int .i64 o5) ∧ w'.cell? ⟨g8, 5, none⟩ = some (.int .i64 o6)) (ds := []) #[false, false, false, false, false, false, false, false, false, false, false] (by kernel_rfl) rfl rfl ⟨x0, x1, x2, x3, x4, x5⟩ (fun hHeld => ?_)
  replace HB : Aside0 (Below w.heap.size w wr.drew) := ⟨below_drew1 HB.out⟩
  replace K4 : Aside0 (wr.drew.heap[g]? = some (.cells #[.int .u8 0, .string (⟨#[]⟩ : ByteArray), .bool false, .int .u8 0, .int .i64 0, .int .i64 0] 41 (0, 0))) := ⟨blk_drew K4.out⟩
  change wr.drew.cell? _ = _ at x0
  change wr.drew.cell? _ = _ at x1
  change wr.drew.cell? _ = _ at x2
  change wr.drew.cell? _ = _ at x3
  change wr.drew.cell? _ = _ at x4
  change wr.drew.cell? _ = _ at x5
  generalize wr.drew = wd at HB K4 x0 x1 x2 x3 x4 x5 hHeld ⊢
  refine pure_ (i := 1) (N := some 40) (v := ?_) (a' := ?_) #[false, true, false, false, false, false, false, false, false, false, false] rfl rfl (by kernel_rfl) (fun _ _ _ h => h) (Or.inl ⟨by rfl, ?_⟩) ?_ ?_
  rotate_left
  · intro w'
    go_simp
    with_reducible rfl
  rotate_left
  · simp only [Act.put, List.setIfInBounds_toArray, List.set_cons_zero, List.set_cons_succ, i64_w, i32_w]
    rfl
  refine pure_ (i := 2) (N := some 41) (v := ?_) (a' := ?_) #[false, true, true, false, false, false, false, false, false, false, false] rfl rfl (by kernel_rfl) (fun _ _ _ h => h) (Or.inl ⟨by rfl, ?_⟩) ?_ ?_
  rotate_left
  · intro w'
    go_simp
    with_reducible rfl
  rotate_left
  · simp only [Act.put, List.setIfInBounds_toArray, List.set_cons_zero, List.set_cons_succ, i64_w, i32_w]
    rfl
  refine pure_ (i := 3) (N := some 42) (v := ?_) (a' := ?_) #[false, true, true, true, false, false, false, false, false, false, false] rfl rfl (by kernel_rfl) (fun _ _ _ h => h) (Or.inl ⟨by rfl, ?_⟩) ?_ ?_
  rotate_left
  · intro w'
    go_simp
    with_reducible rfl
  rotate_left
  · simp only [Act.put, List.setIfInBounds_toArray, List.set_cons_zero, List.set_cons_succ, i64_w, i32_w]
    rfl
  refine pure_ (i := 7) (N := some 46) (v := ?_) (a' := ?_) #[false, true, true, true, false, false, false, true, false, false, false] rfl rfl (by kernel_rfl) (fun _ _ _ h => h) (Or.inl ⟨by rfl, ?_⟩) ?_ ?_
  rotate_left
  · intro w'
    go_simp
    with_reducible rfl
  rotate_left
  · simp only [Act.put, List.setIfInBounds_toArray, List.set_cons_zero, List.set_cons_succ, i64_w, i32_w]
    rfl
  refine take_ (i := 0) (N := some 39) (v := ?_) (a' := ?_) #[true, true, true, true, false, false, false, true, false, false, false] rfl rfl (by kernel_rfl) (fun _ _ _ h => h) (Or.inl ⟨by rfl, ?_⟩) hHeld ?_ ?_
  rotate_left
  · rintro w' ⟨s0, s1, s2, s3, s4, s5⟩
    go_simp
    with_reducible rfl
  rotate_left
  · simp only [Act.put, List.setIfInBounds_toArray, List.set_cons_zero, List.set_cons_succ, i64_w, i32_w]
    rfl
  refine one_ (i := 4) (N := some 43) #[true, true, true, true, true, false, false, true, false, false, false] rfl rfl (by kernel_rfl) (by decide) (fun K hK => ?_)
  refine goes_ Tryz.func79 (by kernel_rfl) rfl #[.int .u8 3] (by rfl) rfl rfl (by simp only [List.map_toArray, List.map_cons, List.map_nil]; rfl) ?_
  with_reducible refine (isa_row.calls _ _ _ _ _ _ RW.out).mono ?_
  rintro e w2 ⟨rfl, hbz⟩
  refine ⟨_, rfl, ?_⟩
  replace x0 := (hbz.cell (World.block_lt_of_cell? _ _ x0)).trans x0
  replace x1 := (hbz.cell (World.block_lt_of_cell? _ _ x1)).trans x1
  replace x2 := (hbz.cell (World.block_lt_of_cell? _ _ x2)).trans x2
  replace x3 := (hbz.cell (World.block_lt_of_cell? _ _ x3)).trans x3
  replace x4 := (hbz.cell (World.block_lt_of_cell? _ _ x4)).trans x4
  replace x5 := (hbz.cell (World.block_lt_of_cell? _ _ x5)).trans x5
  replace K4 := Aside0.mk (blk_below K4.out hbz)
  replace HB := Aside0.mk (below_step HB.out hbz)
  clear hbz
  refine hK.out _ _ ⟨x0, x1, x2, x3, x4, x5⟩ (fun hHeld => ?_)
  clear hK K
  refine norm_ (a' := ?_) ?_ ?_
  rotate_left
  · show Act.put _ (some 43) _ = _
    simp only [Act.put, List.setIfInBounds_toArray, List.set_cons_zero, List.set_cons_succ, i64_w, i32_w]
    rfl
  refine pure_ (i := 5) (N := some 44) (v := ?_) (a' := ?_) #[true, true, true, true, true, true, false, true, false, false, false] rfl rfl (by kernel_rfl) (fun _ _ _ h => h) (Or.inl ⟨by rfl, ?_⟩) ?_ ?_
  rotate_left
  · intro w'
    go_simp
    with_reducible rfl
  rotate_left
  · simp only [Act.put, List.setIfInBounds_toArray, List.set_cons_zero, List.set_cons_succ, i64_w, i32_w]
    rfl
  refine pure_ (i := 6) (N := some 45) (v := ?_) (a' := ?_) #[true, true, true, true, true, true, true, true, false, false, false] rfl rfl (by kernel_rfl) (fun _ _ _ h => h) (Or.inl ⟨by rfl, ?_⟩) ?_ ?_
  rotate_left
  · intro w'
    go_simp
    with_reducible rfl
  rotate_left
  · simp only [Act.put, List.setIfInBounds_toArray, List.set_cons_zero, List.set_cons_succ, i64_w, i32_w]
    rfl
  refine one_ (i := 8) (N := none) #[true, true, true, true, true, true, true, true, true, false, false] rfl rfl (by kernel_rfl) (by decide) (fun K hK => ?_)
  refine skip_ (w1 := World.setRow w2 g #[.int .u8 o1, .string o2, .bool o3, .int .u8 o4, .int .i64 o5, .int .i64 o6]) (by rfl) rfl ?_ ?_
  · refine run_store_row 41 (.tmp 4) (.tmp 39) ?_ g ?_ 41 _ #[.int .u8 o1, .string o2, .bool o3, .int .u8 o4, .int .i64 o5, .int .i64 o6] ?_ K4.out (by kernel_rfl) rfl (by kernel_rfl)
    · rfl
    · rfl
    · rfl
  replace HB := Aside0.mk (below_setRow HB.out L4.out #[.int .u8 o1, .string o2, .bool o3, .int .u8 o4, .int .i64 o5, .int .i64 o6])
  replace K4 := Aside0.mk (blk_row K4.out #[.int .u8 o1, .string o2, .bool o3, .int .u8 o4, .int .i64 o5, .int .i64 o6])
  replace x0 := (cell_row_far x0 NE.out #[.int .u8 o1, .string o2, .bool o3, .int .u8 o4, .int .i64 o5, .int .i64 o6])
  replace x1 := (cell_row_far x1 NE.out #[.int .u8 o1, .string o2, .bool o3, .int .u8 o4, .int .i64 o5, .int .i64 o6])
  replace x2 := (cell_row_far x2 NE.out #[.int .u8 o1, .string o2, .bool o3, .int .u8 o4, .int .i64 o5, .int .i64 o6])
  replace x3 := (cell_row_far x3 NE.out #[.int .u8 o1, .string o2, .bool o3, .int .u8 o4, .int .i64 o5, .int .i64 o6])
  replace x4 := (cell_row_far x4 NE.out #[.int .u8 o1, .string o2, .bool o3, .int .u8 o4, .int .i64 o5, .int .i64 o6])
  replace x5 := (cell_row_far x5 NE.out #[.int .u8 o1, .string o2, .bool o3, .int .u8 o4, .int .i64 o5, .int .i64 o6])
  refine hK.out _ _ ⟨x0, x1, x2, x3, x4, x5⟩ (fun hHeld => ?_)
  clear hK K
  refine pure_ (i := 9) (N := some 5) (v := ?_) (a' := ?_) #[true, true, true, true, true, true, true, true, true, true, false] rfl rfl (by kernel_rfl) (fun _ _ _ h => h) (Or.inl ⟨by rfl, ?_⟩) ?_ ?_
  rotate_left
  · intro w'
    go_simp
    with_reducible rfl
  rotate_left
  · simp only [Act.put, List.setIfInBounds_toArray, List.set_cons_zero, List.set_cons_succ, i64_w, i32_w]
    rfl
  refine pure_ (i := 10) (N := some 6) (v := ?_) (a' := ?_) #[true, true, true, true, true, true, true, true, true, true, true] rfl rfl (by kernel_rfl) (fun _ _ _ h => h) (Or.inl ⟨by rfl, ?_⟩) ?_ ?_
  rotate_left
  · intro w'
    go_simp
    with_reducible rfl
  rotate_left
  · simp only [Act.put, List.setIfInBounds_toArray, List.set_cons_zero, List.set_cons_succ, i64_w, i32_w]
    rfl
  refine done_ (by kernel_rfl) ?_
  go_wp2
  refine bodyPost_ret (results_list (rs := [.cell 4 41, .tmp 5, .tmp 6]) rfl (by simp) (.cell g 41 #[.int .u8 o1, .string o2, .bool o3, .int .u8 o4, .int .i64 o5, .int .i64 o6] (0, 0) _ rfl K4.out Tryz.underlying41 rfl (by kernel_rfl) (.tmp (.tmp .nil)))) rfl ⟨rfl, HB.out⟩
set_option maxRecDepth 100000 in
set_option maxHeartbeats 4000000 in
theorem Decode_w6 (o1 : Int) (o2 : ByteArray) (o3 : Bool) (o4 o5 o6 o7 : Int) (b1 : ByteArray) (b2 b3 b4 : Int)  (ho : isa_Of.f 2 = some (o1, o2, o3, o4, o5, o6, o7)) (hr : isa_row.f 2 = some (b1, b2, b3, b4)) (w : World) :
    Calls Tryz.prog 45 #[.int .u16 6, .bool false] w fun e w' => e = .returned (.tuple #[.agg #[.int .u8 o1, .string o2, .bool o3, .int .u8 o4, .int .i64 o5, .int .i64 o6], .int .i64 (wrap64 (6 - b3)), .int .i64 o7]) ∧ Below w.heap.size w w' := by
  have HB0 := Aside0.mk (Below.refl w.heap.size w)
  have HB := HB0
  have e0 : wrap64 6 = 6 := w64_ (by decide) (by decide)
  have OF := Aside0.mk ho
  have RW := Aside0.mk hr
  clear ho hr
  go_enter Tryz.func45, Tryz.ntmps45
  go_upto_region 13 with (first | ((with_reducible refine gate_dst (N := 4) rfl ?_); refine box_event ?hg (N := 4) ?hd (cs := #[.int .u8 0, .string (⟨#[]⟩ : ByteArray), .bool false, .int .u8 0, .int .i64 0, .int .i64 0]) (t := 41) ?hr ?_; (case hd => rfl); (case hg => rfl); (case hr => kernel_rfl); intro g hg w4 K hb; have HB := Aside0.mk (below_step HB.out hb); have K4 := Aside0.mk K; have L4 := Aside0.mk (show w.heap.size ≤ g from by rw [hg]; exact HB0.out.size); clear K hb hg HB0) | ((with_reducible refine gate_dst (N := 28) rfl ?_); refine Kd.event_run (v := .agg #[.int .u8 0, .int .u8 0, .int .u8 0, .int .u8 4, .int .u8 3, .int .u8 0, .int .u8 2]) (w1 := w4) rfl ?hr2 ?_; (case hr2 => kernel_rfl)) | ((with_reducible refine gate_dst (N := 30) rfl ?_); refine Kd.event_run (v := .int .u8 2) (w1 := w4) rfl ?hr2 ?_; (case hr2 => kernel_rfl)))
  have HB0 := HB
  go_upto_region 14 with (first | (go_at_call 78; (with_reducible refine (isa_Of.calls _ _ _ _ _ _ _ _ _ OF.out).mono ?_); rintro e wo ⟨rfl, hb⟩; replace HB := Aside0.mk (below_step HB.out hb); replace K4 := Aside0.mk (blk_below K4.out hb); replace HB0 := HB; clear hb) | ((with_reducible refine gate_dst (N := 8) rfl ?_); refine box_event ?hg (N := 8) ?hd (cs := #[.int .u8 0, .string (⟨#[]⟩ : ByteArray), .bool false, .int .u8 0, .int .i64 0, .int .i64 0]) (t := 41) ?hr ?_; (case hd => rfl); (case hg => rfl); (case hr => kernel_rfl); intro g8 hg w8 K hb; replace HB := Aside0.mk (below_step HB.out hb); have K8 := Aside0.mk K; have NE := Aside0.mk (show g8 ≠ g from by have := blk_lt K4.out; rw [hg]; omega); have L8 := Aside0.mk (show w.heap.size ≤ g8 from by rw [hg]; exact HB0.out.size); replace K4 := Aside0.mk (blk_below K4.out hb); clear K hb hg HB0) | (refine store_row_ rfl 41 (.tmp 8) (.tmp 37) rfl g8 rfl 41 _ #[.int .u8 o1, .string o2, .bool o3, .int .u8 o4, .int .i64 o5, .int .i64 o6] rfl K8.out ?hi ?hs ?h1 ?_; (case hi => kernel_rfl); (case hs => rfl); (case h1 => kernel_rfl)))
  replace HB := Aside0.mk (below_setRow HB.out L8.out #[.int .u8 o1, .string o2, .bool o3, .int .u8 o4, .int .i64 o5, .int .i64 o6])
  replace K4 := Aside0.mk (blk_row_far K4.out NE.out.symm #[.int .u8 o1, .string o2, .bool o3, .int .u8 o4, .int .i64 o5, .int .i64 o6])
  have K8b := Aside0.mk (blk_row K8.out #[.int .u8 o1, .string o2, .bool o3, .int .u8 o4, .int .i64 o5, .int .i64 o6])
  clear K8
  generalize World.setRow _ g8 #[.int .u8 o1, .string o2, .bool o3, .int .u8 o4, .int .i64 o5, .int .i64 o6] = wr at HB K4 K8b ⊢
  have x0 : wr.cell? ⟨g8, 0, none⟩ = some (.int .u8 o1) := (blk_cell K8b.out 0).trans rfl
  have x1 : wr.cell? ⟨g8, 1, none⟩ = some (.string o2) := (blk_cell K8b.out 1).trans rfl
  have x2 : wr.cell? ⟨g8, 2, none⟩ = some (.bool o3) := (blk_cell K8b.out 2).trans rfl
  have x3 : wr.cell? ⟨g8, 3, none⟩ = some (.int .u8 o4) := (blk_cell K8b.out 3).trans rfl
  have x4 : wr.cell? ⟨g8, 4, none⟩ = some (.int .i64 o5) := (blk_cell K8b.out 4).trans rfl
  have x5 : wr.cell? ⟨g8, 5, none⟩ = some (.int .i64 o6) := (blk_cell K8b.out 5).trans rfl
  have hfld := fld57_2
  refine start_ (n := 11) (S := fun w' => w'.cell? ⟨g8, 0, none⟩ = some (.int .u8 o1) ∧ w'.cell? ⟨g8, 1, none⟩ = some (.string o2) ∧ w'.cell? ⟨g8, 2, none⟩ = some (.bool o3) ∧ w'.cell? ⟨g8, 3, none⟩ = some (.int .u8 o4) ∧ w'.cell? ⟨g8, 4, none⟩ = some (.int .i64 o5) ∧ w'.cell? ⟨g8, 5, none⟩ = some (.int .i64 o6)) (ds := []) #[false, false, false, false, false, false, false, false, false, false, false] (by kernel_rfl) rfl rfl ⟨x0, x1, x2, x3, x4, x5⟩ (fun hHeld => ?_)
  replace HB : Aside0 (Below w.heap.size w wr.drew) := ⟨below_drew1 HB.out⟩
  replace K4 : Aside0 (wr.drew.heap[g]? = some (.cells #[.int .u8 0, .string (⟨#[]⟩ : ByteArray), .bool false, .int .u8 0, .int .i64 0, .int .i64 0] 41 (0, 0))) := ⟨blk_drew K4.out⟩
  change wr.drew.cell? _ = _ at x0
  change wr.drew.cell? _ = _ at x1
  change wr.drew.cell? _ = _ at x2
  change wr.drew.cell? _ = _ at x3
  change wr.drew.cell? _ = _ at x4
  change wr.drew.cell? _ = _ at x5
  generalize wr.drew = wd at HB K4 x0 x1 x2 x3 x4 x5 hHeld ⊢
  refine pure_ (i := 1) (N := some 40) (v := ?_) (a' := ?_) #[false, true, false, false, false, false, false, false, false, false, false] rfl rfl (by kernel_rfl) (fun _ _ _ h => h) (Or.inl ⟨by rfl, ?_⟩) ?_ ?_
  rotate_left
  · intro w'
    go_simp
    with_reducible rfl
  rotate_left
  · simp only [Act.put, List.setIfInBounds_toArray, List.set_cons_zero, List.set_cons_succ, i64_w, i32_w]
    rfl
  refine pure_ (i := 2) (N := some 41) (v := ?_) (a' := ?_) #[false, true, true, false, false, false, false, false, false, false, false] rfl rfl (by kernel_rfl) (fun _ _ _ h => h) (Or.inl ⟨by rfl, ?_⟩) ?_ ?_
  rotate_left
  · intro w'
    go_simp
    with_reducible rfl
  rotate_left
  · simp only [Act.put, List.setIfInBounds_toArray, List.set_cons_zero, List.set_cons_succ, i64_w, i32_w]
    rfl
  refine pure_ (i := 3) (N := some 42) (v := ?_) (a' := ?_) #[false, true, true, true, false, false, false, false, false, false, false] rfl rfl (by kernel_rfl) (fun _ _ _ h => h) (Or.inl ⟨by rfl, ?_⟩) ?_ ?_
  rotate_left
  · intro w'
    go_simp
    with_reducible rfl
  rotate_left
  · simp only [Act.put, List.setIfInBounds_toArray, List.set_cons_zero, List.set_cons_succ, i64_w, i32_w]
    rfl
  refine pure_ (i := 7) (N := some 46) (v := ?_) (a' := ?_) #[false, true, true, true, false, false, false, true, false, false, false] rfl rfl (by kernel_rfl) (fun _ _ _ h => h) (Or.inl ⟨by rfl, ?_⟩) ?_ ?_
  rotate_left
  · intro w'
    go_simp
    with_reducible rfl
  rotate_left
  · simp only [Act.put, List.setIfInBounds_toArray, List.set_cons_zero, List.set_cons_succ, i64_w, i32_w]
    rfl
  refine take_ (i := 0) (N := some 39) (v := ?_) (a' := ?_) #[true, true, true, true, false, false, false, true, false, false, false] rfl rfl (by kernel_rfl) (fun _ _ _ h => h) (Or.inl ⟨by rfl, ?_⟩) hHeld ?_ ?_
  rotate_left
  · rintro w' ⟨s0, s1, s2, s3, s4, s5⟩
    go_simp
    with_reducible rfl
  rotate_left
  · simp only [Act.put, List.setIfInBounds_toArray, List.set_cons_zero, List.set_cons_succ, i64_w, i32_w]
    rfl
  refine one_ (i := 4) (N := some 43) #[true, true, true, true, true, false, false, true, false, false, false] rfl rfl (by kernel_rfl) (by decide) (fun K hK => ?_)
  refine goes_ Tryz.func79 (by kernel_rfl) rfl #[.int .u8 2] (by rfl) rfl rfl (by simp only [List.map_toArray, List.map_cons, List.map_nil]; rfl) ?_
  with_reducible refine (isa_row.calls _ _ _ _ _ _ RW.out).mono ?_
  rintro e w2 ⟨rfl, hbz⟩
  refine ⟨_, rfl, ?_⟩
  replace x0 := (hbz.cell (World.block_lt_of_cell? _ _ x0)).trans x0
  replace x1 := (hbz.cell (World.block_lt_of_cell? _ _ x1)).trans x1
  replace x2 := (hbz.cell (World.block_lt_of_cell? _ _ x2)).trans x2
  replace x3 := (hbz.cell (World.block_lt_of_cell? _ _ x3)).trans x3
  replace x4 := (hbz.cell (World.block_lt_of_cell? _ _ x4)).trans x4
  replace x5 := (hbz.cell (World.block_lt_of_cell? _ _ x5)).trans x5
  replace K4 := Aside0.mk (blk_below K4.out hbz)
  replace HB := Aside0.mk (below_step HB.out hbz)
  clear hbz
  refine hK.out _ _ ⟨x0, x1, x2, x3, x4, x5⟩ (fun hHeld => ?_)
  clear hK K
  refine norm_ (a' := ?_) ?_ ?_
  rotate_left
  · show Act.put _ (some 43) _ = _
    simp only [Act.put, List.setIfInBounds_toArray, List.set_cons_zero, List.set_cons_succ, i64_w, i32_w]
    rfl
  refine pure_ (i := 5) (N := some 44) (v := ?_) (a' := ?_) #[true, true, true, true, true, true, false, true, false, false, false] rfl rfl (by kernel_rfl) (fun _ _ _ h => h) (Or.inl ⟨by rfl, ?_⟩) ?_ ?_
  rotate_left
  · intro w'
    go_simp
    with_reducible rfl
  rotate_left
  · simp only [Act.put, List.setIfInBounds_toArray, List.set_cons_zero, List.set_cons_succ, i64_w, i32_w]
    rfl
  refine pure_ (i := 6) (N := some 45) (v := ?_) (a' := ?_) #[true, true, true, true, true, true, true, true, false, false, false] rfl rfl (by kernel_rfl) (fun _ _ _ h => h) (Or.inl ⟨by rfl, ?_⟩) ?_ ?_
  rotate_left
  · intro w'
    go_simp
    with_reducible rfl
  rotate_left
  · simp only [Act.put, List.setIfInBounds_toArray, List.set_cons_zero, List.set_cons_succ, i64_w, i32_w]
    rfl
  refine one_ (i := 8) (N := none) #[true, true, true, true, true, true, true, true, true, false, false] rfl rfl (by kernel_rfl) (by decide) (fun K hK => ?_)
  refine skip_ (w1 := World.setRow w2 g #[.int .u8 o1, .string o2, .bool o3, .int .u8 o4, .int .i64 o5, .int .i64 o6]) (by rfl) rfl ?_ ?_
  · refine run_store_row 41 (.tmp 4) (.tmp 39) ?_ g ?_ 41 _ #[.int .u8 o1, .string o2, .bool o3, .int .u8 o4, .int .i64 o5, .int .i64 o6] ?_ K4.out (by kernel_rfl) rfl (by kernel_rfl)
    · rfl
    · rfl
    · rfl
  replace HB := Aside0.mk (below_setRow HB.out L4.out #[.int .u8 o1, .string o2, .bool o3, .int .u8 o4, .int .i64 o5, .int .i64 o6])
  replace K4 := Aside0.mk (blk_row K4.out #[.int .u8 o1, .string o2, .bool o3, .int .u8 o4, .int .i64 o5, .int .i64 o6])
  replace x0 := (cell_row_far x0 NE.out #[.int .u8 o1, .string o2, .bool o3, .int .u8 o4, .int .i64 o5, .int .i64 o6])
  replace x1 := (cell_row_far x1 NE.out #[.int .u8 o1, .string o2, .bool o3, .int .u8 o4, .int .i64 o5, .int .i64 o6])
  replace x2 := (cell_row_far x2 NE.out #[.int .u8 o1, .string o2, .bool o3, .int .u8 o4, .int .i64 o5, .int .i64 o6])
  replace x3 := (cell_row_far x3 NE.out #[.int .u8 o1, .string o2, .bool o3, .int .u8 o4, .int .i64 o5, .int .i64 o6])
  replace x4 := (cell_row_far x4 NE.out #[.int .u8 o1, .string o2, .bool o3, .int .u8 o4, .int .i64 o5, .int .i64 o6])
  replace x5 := (cell_row_far x5 NE.out #[.int .u8 o1, .string o2, .bool o3, .int .u8 o4, .int .i64 o5, .int .i64 o6])
  refine hK.out _ _ ⟨x0, x1, x2, x3, x4, x5⟩ (fun hHeld => ?_)
  clear hK K
  refine pure_ (i := 9) (N := some 5) (v := ?_) (a' := ?_) #[true, true, true, true, true, true, true, true, true, true, false] rfl rfl (by kernel_rfl) (fun _ _ _ h => h) (Or.inl ⟨by rfl, ?_⟩) ?_ ?_
  rotate_left
  · intro w'
    go_simp
    with_reducible rfl
  rotate_left
  · simp only [Act.put, List.setIfInBounds_toArray, List.set_cons_zero, List.set_cons_succ, i64_w, i32_w]
    rfl
  refine pure_ (i := 10) (N := some 6) (v := ?_) (a' := ?_) #[true, true, true, true, true, true, true, true, true, true, true] rfl rfl (by kernel_rfl) (fun _ _ _ h => h) (Or.inl ⟨by rfl, ?_⟩) ?_ ?_
  rotate_left
  · intro w'
    go_simp
    with_reducible rfl
  rotate_left
  · simp only [Act.put, List.setIfInBounds_toArray, List.set_cons_zero, List.set_cons_succ, i64_w, i32_w]
    rfl
  refine done_ (by kernel_rfl) ?_
  go_wp2
  refine bodyPost_ret (results_list (rs := [.cell 4 41, .tmp 5, .tmp 6]) rfl (by simp) (.cell g 41 #[.int .u8 o1, .string o2, .bool o3, .int .u8 o4, .int .i64 o5, .int .i64 o6] (0, 0) _ rfl K4.out Tryz.underlying41 rfl (by kernel_rfl) (.tmp (.tmp .nil)))) rfl ⟨rfl, HB.out⟩
set_option maxRecDepth 100000 in
set_option maxHeartbeats 4000000 in
theorem Decode_w20495 (o1 : Int) (o2 : ByteArray) (o3 : Bool) (o4 o5 o6 o7 : Int) (b1 : ByteArray) (b2 b3 b4 : Int)  (ho : isa_Of.f 14 = some (o1, o2, o3, o4, o5, o6, o7)) (hr : isa_row.f 14 = some (b1, b2, b3, b4)) (w : World) :
    Calls Tryz.prog 45 #[.int .u16 20495, .bool false] w fun e w' => e = .returned (.tuple #[.agg #[.int .u8 o1, .string o2, .bool o3, .int .u8 o4, .int .i64 o5, .int .i64 o6], .int .i64 (wrap64 (20495 - b3)), .int .i64 o7]) ∧ Below w.heap.size w w' := by
  have HB0 := Aside0.mk (Below.refl w.heap.size w)
  have HB := HB0
  have e0 : wrap64 20495 = 20495 := w64_ (by decide) (by decide)
  have OF := Aside0.mk ho
  have RW := Aside0.mk hr
  clear ho hr
  go_enter Tryz.func45, Tryz.ntmps45
  go_upto_region 13 with (first | ((with_reducible refine gate_dst (N := 4) rfl ?_); refine box_event ?hg (N := 4) ?hd (cs := #[.int .u8 0, .string (⟨#[]⟩ : ByteArray), .bool false, .int .u8 0, .int .i64 0, .int .i64 0]) (t := 41) ?hr ?_; (case hd => rfl); (case hg => rfl); (case hr => kernel_rfl); intro g hg w4 K hb; have HB := Aside0.mk (below_step HB.out hb); have K4 := Aside0.mk K; have L4 := Aside0.mk (show w.heap.size ≤ g from by rw [hg]; exact HB0.out.size); clear K hb hg HB0))
  have HB0 := HB
  go_upto_region 14 with (first | (go_at_call 78; (with_reducible refine (isa_Of.calls _ _ _ _ _ _ _ _ _ OF.out).mono ?_); rintro e wo ⟨rfl, hb⟩; replace HB := Aside0.mk (below_step HB.out hb); replace K4 := Aside0.mk (blk_below K4.out hb); replace HB0 := HB; clear hb) | ((with_reducible refine gate_dst (N := 8) rfl ?_); refine box_event ?hg (N := 8) ?hd (cs := #[.int .u8 0, .string (⟨#[]⟩ : ByteArray), .bool false, .int .u8 0, .int .i64 0, .int .i64 0]) (t := 41) ?hr ?_; (case hd => rfl); (case hg => rfl); (case hr => kernel_rfl); intro g8 hg w8 K hb; replace HB := Aside0.mk (below_step HB.out hb); have K8 := Aside0.mk K; have NE := Aside0.mk (show g8 ≠ g from by have := blk_lt K4.out; rw [hg]; omega); have L8 := Aside0.mk (show w.heap.size ≤ g8 from by rw [hg]; exact HB0.out.size); replace K4 := Aside0.mk (blk_below K4.out hb); clear K hb hg HB0) | (refine store_row_ rfl 41 (.tmp 8) (.tmp 37) rfl g8 rfl 41 _ #[.int .u8 o1, .string o2, .bool o3, .int .u8 o4, .int .i64 o5, .int .i64 o6] rfl K8.out ?hi ?hs ?h1 ?_; (case hi => kernel_rfl); (case hs => rfl); (case h1 => kernel_rfl)))
  replace HB := Aside0.mk (below_setRow HB.out L8.out #[.int .u8 o1, .string o2, .bool o3, .int .u8 o4, .int .i64 o5, .int .i64 o6])
  replace K4 := Aside0.mk (blk_row_far K4.out NE.out.symm #[.int .u8 o1, .string o2, .bool o3, .int .u8 o4, .int .i64 o5, .int .i64 o6])
  have K8b := Aside0.mk (blk_row K8.out #[.int .u8 o1, .string o2, .bool o3, .int .u8 o4, .int .i64 o5, .int .i64 o6])
  clear K8
  generalize World.setRow _ g8 #[.int .u8 o1, .string o2, .bool o3, .int .u8 o4, .int .i64 o5, .int .i64 o6] = wr at HB K4 K8b ⊢
  have x0 : wr.cell? ⟨g8, 0, none⟩ = some (.int .u8 o1) := (blk_cell K8b.out 0).trans rfl
  have x1 : wr.cell? ⟨g8, 1, none⟩ = some (.string o2) := (blk_cell K8b.out 1).trans rfl
  have x2 : wr.cell? ⟨g8, 2, none⟩ = some (.bool o3) := (blk_cell K8b.out 2).trans rfl
  have x3 : wr.cell? ⟨g8, 3, none⟩ = some (.int .u8 o4) := (blk_cell K8b.out 3).trans rfl
  have x4 : wr.cell? ⟨g8, 4, none⟩ = some (.int .i64 o5) := (blk_cell K8b.out 4).trans rfl
  have x5 : wr.cell? ⟨g8, 5, none⟩ = some (.int .i64 o6) := (blk_cell K8b.out 5).trans rfl
  have hfld := fld57_2
  refine start_ (n := 11) (S := fun w' => w'.cell? ⟨g8, 0, none⟩ = some (.int .u8 o1) ∧ w'.cell? ⟨g8, 1, none⟩ = some (.string o2) ∧ w'.cell? ⟨g8, 2, none⟩ = some (.bool o3) ∧ w'.cell? ⟨g8, 3, none⟩ = some (.int .u8 o4) ∧ w'.cell? ⟨g8, 4, none⟩ = some (.int .i64 o5) ∧ w'.cell? ⟨g8, 5, none⟩ = some (.int .i64 o6)) (ds := []) #[false, false, false, false, false, false, false, false, false, false, false] (by kernel_rfl) rfl rfl ⟨x0, x1, x2, x3, x4, x5⟩ (fun hHeld => ?_)
  replace HB : Aside0 (Below w.heap.size w wr.drew) := ⟨below_drew1 HB.out⟩
  replace K4 : Aside0 (wr.drew.heap[g]? = some (.cells #[.int .u8 0, .string (⟨#[]⟩ : ByteArray), .bool false, .int .u8 0, .int .i64 0, .int .i64 0] 41 (0, 0))) := ⟨blk_drew K4.out⟩
  change wr.drew.cell? _ = _ at x0
  change wr.drew.cell? _ = _ at x1
  change wr.drew.cell? _ = _ at x2
  change wr.drew.cell? _ = _ at x3
  change wr.drew.cell? _ = _ at x4
  change wr.drew.cell? _ = _ at x5
  generalize wr.drew = wd at HB K4 x0 x1 x2 x3 x4 x5 hHeld ⊢
  refine pure_ (i := 1) (N := some 40) (v := ?_) (a' := ?_) #[false, true, false, false, false, false, false, false, false, false, false] rfl rfl (by kernel_rfl) (fun _ _ _ h => h) (Or.inl ⟨by rfl, ?_⟩) ?_ ?_
  rotate_left
  · intro w'
    go_simp
    with_reducible rfl
  rotate_left
  · simp only [Act.put, List.setIfInBounds_toArray, List.set_cons_zero, List.set_cons_succ, i64_w, i32_w]
    rfl
  refine pure_ (i := 2) (N := some 41) (v := ?_) (a' := ?_) #[false, true, true, false, false, false, false, false, false, false, false] rfl rfl (by kernel_rfl) (fun _ _ _ h => h) (Or.inl ⟨by rfl, ?_⟩) ?_ ?_
  rotate_left
  · intro w'
    go_simp
    with_reducible rfl
  rotate_left
  · simp only [Act.put, List.setIfInBounds_toArray, List.set_cons_zero, List.set_cons_succ, i64_w, i32_w]
    rfl
  refine pure_ (i := 3) (N := some 42) (v := ?_) (a' := ?_) #[false, true, true, true, false, false, false, false, false, false, false] rfl rfl (by kernel_rfl) (fun _ _ _ h => h) (Or.inl ⟨by rfl, ?_⟩) ?_ ?_
  rotate_left
  · intro w'
    go_simp
    with_reducible rfl
  rotate_left
  · simp only [Act.put, List.setIfInBounds_toArray, List.set_cons_zero, List.set_cons_succ, i64_w, i32_w]
    rfl
  refine pure_ (i := 7) (N := some 46) (v := ?_) (a' := ?_) #[false, true, true, true, false, false, false, true, false, false, false] rfl rfl (by kernel_rfl) (fun _ _ _ h => h) (Or.inl ⟨by rfl, ?_⟩) ?_ ?_
  rotate_left
  · intro w'
    go_simp
    with_reducible rfl
  rotate_left
  · simp only [Act.put, List.setIfInBounds_toArray, List.set_cons_zero, List.set_cons_succ, i64_w, i32_w]
    rfl
  refine take_ (i := 0) (N := some 39) (v := ?_) (a' := ?_) #[true, true, true, true, false, false, false, true, false, false, false] rfl rfl (by kernel_rfl) (fun _ _ _ h => h) (Or.inl ⟨by rfl, ?_⟩) hHeld ?_ ?_
  rotate_left
  · rintro w' ⟨s0, s1, s2, s3, s4, s5⟩
    go_simp
    with_reducible rfl
  rotate_left
  · simp only [Act.put, List.setIfInBounds_toArray, List.set_cons_zero, List.set_cons_succ, i64_w, i32_w]
    rfl
  refine one_ (i := 4) (N := some 43) #[true, true, true, true, true, false, false, true, false, false, false] rfl rfl (by kernel_rfl) (by decide) (fun K hK => ?_)
  refine goes_ Tryz.func79 (by kernel_rfl) rfl #[.int .u8 14] (by rfl) rfl rfl (by simp only [List.map_toArray, List.map_cons, List.map_nil]; rfl) ?_
  with_reducible refine (isa_row.calls _ _ _ _ _ _ RW.out).mono ?_
  rintro e w2 ⟨rfl, hbz⟩
  refine ⟨_, rfl, ?_⟩
  replace x0 := (hbz.cell (World.block_lt_of_cell? _ _ x0)).trans x0
  replace x1 := (hbz.cell (World.block_lt_of_cell? _ _ x1)).trans x1
  replace x2 := (hbz.cell (World.block_lt_of_cell? _ _ x2)).trans x2
  replace x3 := (hbz.cell (World.block_lt_of_cell? _ _ x3)).trans x3
  replace x4 := (hbz.cell (World.block_lt_of_cell? _ _ x4)).trans x4
  replace x5 := (hbz.cell (World.block_lt_of_cell? _ _ x5)).trans x5
  replace K4 := Aside0.mk (blk_below K4.out hbz)
  replace HB := Aside0.mk (below_step HB.out hbz)
  clear hbz
  refine hK.out _ _ ⟨x0, x1, x2, x3, x4, x5⟩ (fun hHeld => ?_)
  clear hK K
  refine norm_ (a' := ?_) ?_ ?_
  rotate_left
  · show Act.put _ (some 43) _ = _
    simp only [Act.put, List.setIfInBounds_toArray, List.set_cons_zero, List.set_cons_succ, i64_w, i32_w]
    rfl
  refine pure_ (i := 5) (N := some 44) (v := ?_) (a' := ?_) #[true, true, true, true, true, true, false, true, false, false, false] rfl rfl (by kernel_rfl) (fun _ _ _ h => h) (Or.inl ⟨by rfl, ?_⟩) ?_ ?_
  rotate_left
  · intro w'
    go_simp
    with_reducible rfl
  rotate_left
  · simp only [Act.put, List.setIfInBounds_toArray, List.set_cons_zero, List.set_cons_succ, i64_w, i32_w]
    rfl
  refine pure_ (i := 6) (N := some 45) (v := ?_) (a' := ?_) #[true, true, true, true, true, true, true, true, false, false, false] rfl rfl (by kernel_rfl) (fun _ _ _ h => h) (Or.inl ⟨by rfl, ?_⟩) ?_ ?_
  rotate_left
  · intro w'
    go_simp
    with_reducible rfl
  rotate_left
  · simp only [Act.put, List.setIfInBounds_toArray, List.set_cons_zero, List.set_cons_succ, i64_w, i32_w]
    rfl
  refine one_ (i := 8) (N := none) #[true, true, true, true, true, true, true, true, true, false, false] rfl rfl (by kernel_rfl) (by decide) (fun K hK => ?_)
  refine skip_ (w1 := World.setRow w2 g #[.int .u8 o1, .string o2, .bool o3, .int .u8 o4, .int .i64 o5, .int .i64 o6]) (by rfl) rfl ?_ ?_
  · refine run_store_row 41 (.tmp 4) (.tmp 39) ?_ g ?_ 41 _ #[.int .u8 o1, .string o2, .bool o3, .int .u8 o4, .int .i64 o5, .int .i64 o6] ?_ K4.out (by kernel_rfl) rfl (by kernel_rfl)
    · rfl
    · rfl
    · rfl
  replace HB := Aside0.mk (below_setRow HB.out L4.out #[.int .u8 o1, .string o2, .bool o3, .int .u8 o4, .int .i64 o5, .int .i64 o6])
  replace K4 := Aside0.mk (blk_row K4.out #[.int .u8 o1, .string o2, .bool o3, .int .u8 o4, .int .i64 o5, .int .i64 o6])
  replace x0 := (cell_row_far x0 NE.out #[.int .u8 o1, .string o2, .bool o3, .int .u8 o4, .int .i64 o5, .int .i64 o6])
  replace x1 := (cell_row_far x1 NE.out #[.int .u8 o1, .string o2, .bool o3, .int .u8 o4, .int .i64 o5, .int .i64 o6])
  replace x2 := (cell_row_far x2 NE.out #[.int .u8 o1, .string o2, .bool o3, .int .u8 o4, .int .i64 o5, .int .i64 o6])
  replace x3 := (cell_row_far x3 NE.out #[.int .u8 o1, .string o2, .bool o3, .int .u8 o4, .int .i64 o5, .int .i64 o6])
  replace x4 := (cell_row_far x4 NE.out #[.int .u8 o1, .string o2, .bool o3, .int .u8 o4, .int .i64 o5, .int .i64 o6])
  replace x5 := (cell_row_far x5 NE.out #[.int .u8 o1, .string o2, .bool o3, .int .u8 o4, .int .i64 o5, .int .i64 o6])
  refine hK.out _ _ ⟨x0, x1, x2, x3, x4, x5⟩ (fun hHeld => ?_)
  clear hK K
  refine pure_ (i := 9) (N := some 5) (v := ?_) (a' := ?_) #[true, true, true, true, true, true, true, true, true, true, false] rfl rfl (by kernel_rfl) (fun _ _ _ h => h) (Or.inl ⟨by rfl, ?_⟩) ?_ ?_
  rotate_left
  · intro w'
    go_simp
    with_reducible rfl
  rotate_left
  · simp only [Act.put, List.setIfInBounds_toArray, List.set_cons_zero, List.set_cons_succ, i64_w, i32_w]
    rfl
  refine pure_ (i := 10) (N := some 6) (v := ?_) (a' := ?_) #[true, true, true, true, true, true, true, true, true, true, true] rfl rfl (by kernel_rfl) (fun _ _ _ h => h) (Or.inl ⟨by rfl, ?_⟩) ?_ ?_
  rotate_left
  · intro w'
    go_simp
    with_reducible rfl
  rotate_left
  · simp only [Act.put, List.setIfInBounds_toArray, List.set_cons_zero, List.set_cons_succ, i64_w, i32_w]
    rfl
  refine done_ (by kernel_rfl) ?_
  go_wp2
  refine bodyPost_ret (results_list (rs := [.cell 4 41, .tmp 5, .tmp 6]) rfl (by simp) (.cell g 41 #[.int .u8 o1, .string o2, .bool o3, .int .u8 o4, .int .i64 o5, .int .i64 o6] (0, 0) _ rfl K4.out Tryz.underlying41 rfl (by kernel_rfl) (.tmp (.tmp .nil)))) rfl ⟨rfl, HB.out⟩
set_option maxRecDepth 100000 in
set_option maxHeartbeats 4000000 in
theorem Decode_2 (k : Nat) (a0 : Int) (c : Int) (o1 : Int) (o2 : ByteArray) (o3 : Bool) (o4 o5 o6 o7 : Int) (b1 : ByteArray) (b2 b3 b4 : Int) (h0 : 0 ≤ a0) (h1 : a0 ≤ 32767) (n3 : a0 ≠ 3) (n4 : a0 ≠ 4) (n6 : a0 ≠ 6) (n5 : a0 ≠ 20495) (hf : isa_find.f k a0 1 19 = some c) (ho : isa_Of.f c = some (o1, o2, o3, o4, o5, o6, o7)) (hr : isa_row.f c = some (b1, b2, b3, b4)) (w : World) :
    Calls Tryz.prog 45 #[.int .u16 a0, .bool false] w fun e w' => e = .returned (.tuple #[.agg #[.int .u8 o1, .string o2, .bool o3, .int .u8 o4, .int .i64 o5, .int .i64 o6], .int .i64 (wrap64 (a0 - b3)), .int .i64 o7]) ∧ Below w.heap.size w w' := by
  have HB0 := Aside0.mk (Below.refl w.heap.size w)
  have HB := HB0
  have c0 : decide (32767 < a0) = false := decide_eq_false (by omega)
  have e0 : wrap64 a0 = a0 := w64_ (by omega) (by omega)
  have d3 : (a0 == 3) = false := by simpa using n3
  have d4 : (a0 == 4) = false := by simpa using n4
  have d6 : (a0 == 6) = false := by simpa using n6
  have d5 : (a0 == 20495) = false := by simpa using n5
  have FD := Aside0.mk hf
  clear h0 h1 hf n3 n4 n6 n5
  have OF := Aside0.mk ho
  have RW := Aside0.mk hr
  clear ho hr
  go_enter Tryz.func45, Tryz.ntmps45
  go_upto_region 13 with (first | ((with_reducible refine gate_dst (N := 4) rfl ?_); refine box_event ?hg (N := 4) ?hd (cs := #[.int .u8 0, .string (⟨#[]⟩ : ByteArray), .bool false, .int .u8 0, .int .i64 0, .int .i64 0]) (t := 41) ?hr ?_; (case hd => rfl); (case hg => rfl); (case hr => kernel_rfl); intro g hg w4 K hb; have HB := Aside0.mk (below_step HB.out hb); have K4 := Aside0.mk K; have L4 := Aside0.mk (show w.heap.size ≤ g from by rw [hg]; exact HB0.out.size); clear K hb hg HB0) | (go_at_call 77; (with_reducible refine (isa_find.calls k a0 1 19 c _ FD.out).mono ?_); rintro e wf ⟨rfl, hb⟩; replace HB := Aside0.mk (below_step HB.out hb); replace K4 := Aside0.mk (blk_below K4.out hb); clear hb))
  have HB0 := HB
  go_upto_region 14 with (first | (go_at_call 78; (with_reducible refine (isa_Of.calls _ _ _ _ _ _ _ _ _ OF.out).mono ?_); rintro e wo ⟨rfl, hb⟩; replace HB := Aside0.mk (below_step HB.out hb); replace K4 := Aside0.mk (blk_below K4.out hb); replace HB0 := HB; clear hb) | ((with_reducible refine gate_dst (N := 8) rfl ?_); refine box_event ?hg (N := 8) ?hd (cs := #[.int .u8 0, .string (⟨#[]⟩ : ByteArray), .bool false, .int .u8 0, .int .i64 0, .int .i64 0]) (t := 41) ?hr ?_; (case hd => rfl); (case hg => rfl); (case hr => kernel_rfl); intro g8 hg w8 K hb; replace HB := Aside0.mk (below_step HB.out hb); have K8 := Aside0.mk K; have NE := Aside0.mk (show g8 ≠ g from by have := blk_lt K4.out; rw [hg]; omega); have L8 := Aside0.mk (show w.heap.size ≤ g8 from by rw [hg]; exact HB0.out.size); replace K4 := Aside0.mk (blk_below K4.out hb); clear K hb hg HB0) | (refine store_row_ rfl 41 (.tmp 8) (.tmp 37) rfl g8 rfl 41 _ #[.int .u8 o1, .string o2, .bool o3, .int .u8 o4, .int .i64 o5, .int .i64 o6] rfl K8.out ?hi ?hs ?h1 ?_; (case hi => kernel_rfl); (case hs => rfl); (case h1 => kernel_rfl)))
  replace HB := Aside0.mk (below_setRow HB.out L8.out #[.int .u8 o1, .string o2, .bool o3, .int .u8 o4, .int .i64 o5, .int .i64 o6])
  replace K4 := Aside0.mk (blk_row_far K4.out NE.out.symm #[.int .u8 o1, .string o2, .bool o3, .int .u8 o4, .int .i64 o5, .int .i64 o6])
  have K8b := Aside0.mk (blk_row K8.out #[.int .u8 o1, .string o2, .bool o3, .int .u8 o4, .int .i64 o5, .int .i64 o6])
  clear K8
  generalize World.setRow _ g8 #[.int .u8 o1, .string o2, .bool o3, .int .u8 o4, .int .i64 o5, .int .i64 o6] = wr at HB K4 K8b ⊢
  have x0 : wr.cell? ⟨g8, 0, none⟩ = some (.int .u8 o1) := (blk_cell K8b.out 0).trans rfl
  have x1 : wr.cell? ⟨g8, 1, none⟩ = some (.string o2) := (blk_cell K8b.out 1).trans rfl
  have x2 : wr.cell? ⟨g8, 2, none⟩ = some (.bool o3) := (blk_cell K8b.out 2).trans rfl
  have x3 : wr.cell? ⟨g8, 3, none⟩ = some (.int .u8 o4) := (blk_cell K8b.out 3).trans rfl
  have x4 : wr.cell? ⟨g8, 4, none⟩ = some (.int .i64 o5) := (blk_cell K8b.out 4).trans rfl
  have x5 : wr.cell? ⟨g8, 5, none⟩ = some (.int .i64 o6) := (blk_cell K8b.out 5).trans rfl
  have hfld := fld57_2
  refine start_ (n := 11) (S := fun w' => w'.cell? ⟨g8, 0, none⟩ = some (.int .u8 o1) ∧ w'.cell? ⟨g8, 1, none⟩ = some (.string o2) ∧ w'.cell? ⟨g8, 2, none⟩ = some (.bool o3) ∧ w'.cell? ⟨g8, 3, none⟩ = some (.int .u8 o4) ∧ w'.cell? ⟨g8, 4, none⟩ = some (.int .i64 o5) ∧ w'.cell? ⟨g8, 5, none⟩ = some (.int .i64 o6)) (ds := []) #[false, false, false, false, false, false, false, false, false, false, false] (by kernel_rfl) rfl rfl ⟨x0, x1, x2, x3, x4, x5⟩ (fun hHeld => ?_)
  replace HB : Aside0 (Below w.heap.size w wr.drew) := ⟨below_drew1 HB.out⟩
  replace K4 : Aside0 (wr.drew.heap[g]? = some (.cells #[.int .u8 0, .string (⟨#[]⟩ : ByteArray), .bool false, .int .u8 0, .int .i64 0, .int .i64 0] 41 (0, 0))) := ⟨blk_drew K4.out⟩
  change wr.drew.cell? _ = _ at x0
  change wr.drew.cell? _ = _ at x1
  change wr.drew.cell? _ = _ at x2
  change wr.drew.cell? _ = _ at x3
  change wr.drew.cell? _ = _ at x4
  change wr.drew.cell? _ = _ at x5
  generalize wr.drew = wd at HB K4 x0 x1 x2 x3 x4 x5 hHeld ⊢
  refine pure_ (i := 1) (N := some 40) (v := ?_) (a' := ?_) #[false, true, false, false, false, false, false, false, false, false, false] rfl rfl (by kernel_rfl) (fun _ _ _ h => h) (Or.inl ⟨by rfl, ?_⟩) ?_ ?_
  rotate_left
  · intro w'
    go_simp
    with_reducible rfl
  rotate_left
  · simp only [Act.put, List.setIfInBounds_toArray, List.set_cons_zero, List.set_cons_succ, i64_w, i32_w]
    rfl
  refine pure_ (i := 2) (N := some 41) (v := ?_) (a' := ?_) #[false, true, true, false, false, false, false, false, false, false, false] rfl rfl (by kernel_rfl) (fun _ _ _ h => h) (Or.inl ⟨by rfl, ?_⟩) ?_ ?_
  rotate_left
  · intro w'
    go_simp
    with_reducible rfl
  rotate_left
  · simp only [Act.put, List.setIfInBounds_toArray, List.set_cons_zero, List.set_cons_succ, i64_w, i32_w]
    rfl
  refine pure_ (i := 3) (N := some 42) (v := ?_) (a' := ?_) #[false, true, true, true, false, false, false, false, false, false, false] rfl rfl (by kernel_rfl) (fun _ _ _ h => h) (Or.inl ⟨by rfl, ?_⟩) ?_ ?_
  rotate_left
  · intro w'
    go_simp
    with_reducible rfl
  rotate_left
  · simp only [Act.put, List.setIfInBounds_toArray, List.set_cons_zero, List.set_cons_succ, i64_w, i32_w]
    rfl
  refine pure_ (i := 7) (N := some 46) (v := ?_) (a' := ?_) #[false, true, true, true, false, false, false, true, false, false, false] rfl rfl (by kernel_rfl) (fun _ _ _ h => h) (Or.inl ⟨by rfl, ?_⟩) ?_ ?_
  rotate_left
  · intro w'
    go_simp
    with_reducible rfl
  rotate_left
  · simp only [Act.put, List.setIfInBounds_toArray, List.set_cons_zero, List.set_cons_succ, i64_w, i32_w]
    rfl
  refine take_ (i := 0) (N := some 39) (v := ?_) (a' := ?_) #[true, true, true, true, false, false, false, true, false, false, false] rfl rfl (by kernel_rfl) (fun _ _ _ h => h) (Or.inl ⟨by rfl, ?_⟩) hHeld ?_ ?_
  rotate_left
  · rintro w' ⟨s0, s1, s2, s3, s4, s5⟩
    go_simp
    with_reducible rfl
  rotate_left
  · simp only [Act.put, List.setIfInBounds_toArray, List.set_cons_zero, List.set_cons_succ, i64_w, i32_w]
    rfl
  refine one_ (i := 4) (N := some 43) #[true, true, true, true, true, false, false, true, false, false, false] rfl rfl (by kernel_rfl) (by decide) (fun K hK => ?_)
  refine goes_ Tryz.func79 (by kernel_rfl) rfl #[.int .u8 c] (by rfl) rfl rfl (by simp only [List.map_toArray, List.map_cons, List.map_nil]; rfl) ?_
  with_reducible refine (isa_row.calls _ _ _ _ _ _ RW.out).mono ?_
  rintro e w2 ⟨rfl, hbz⟩
  refine ⟨_, rfl, ?_⟩
  replace x0 := (hbz.cell (World.block_lt_of_cell? _ _ x0)).trans x0
  replace x1 := (hbz.cell (World.block_lt_of_cell? _ _ x1)).trans x1
  replace x2 := (hbz.cell (World.block_lt_of_cell? _ _ x2)).trans x2
  replace x3 := (hbz.cell (World.block_lt_of_cell? _ _ x3)).trans x3
  replace x4 := (hbz.cell (World.block_lt_of_cell? _ _ x4)).trans x4
  replace x5 := (hbz.cell (World.block_lt_of_cell? _ _ x5)).trans x5
  replace K4 := Aside0.mk (blk_below K4.out hbz)
  replace HB := Aside0.mk (below_step HB.out hbz)
  clear hbz
  refine hK.out _ _ ⟨x0, x1, x2, x3, x4, x5⟩ (fun hHeld => ?_)
  clear hK K
  refine norm_ (a' := ?_) ?_ ?_
  rotate_left
  · show Act.put _ (some 43) _ = _
    simp only [Act.put, List.setIfInBounds_toArray, List.set_cons_zero, List.set_cons_succ, i64_w, i32_w]
    rfl
  refine pure_ (i := 5) (N := some 44) (v := ?_) (a' := ?_) #[true, true, true, true, true, true, false, true, false, false, false] rfl rfl (by kernel_rfl) (fun _ _ _ h => h) (Or.inl ⟨by rfl, ?_⟩) ?_ ?_
  rotate_left
  · intro w'
    go_simp
    with_reducible rfl
  rotate_left
  · simp only [Act.put, List.setIfInBounds_toArray, List.set_cons_zero, List.set_cons_succ, i64_w, i32_w]
    rfl
  refine pure_ (i := 6) (N := some 45) (v := ?_) (a' := ?_) #[true, true, true, true, true, true, true, true, false, false, false] rfl rfl (by kernel_rfl) (fun _ _ _ h => h) (Or.inl ⟨by rfl, ?_⟩) ?_ ?_
  rotate_left
  · intro w'
    go_simp
    with_reducible rfl
  rotate_left
  · simp only [Act.put, List.setIfInBounds_toArray, List.set_cons_zero, List.set_cons_succ, i64_w, i32_w]
    rfl
  refine one_ (i := 8) (N := none) #[true, true, true, true, true, true, true, true, true, false, false] rfl rfl (by kernel_rfl) (by decide) (fun K hK => ?_)
  refine skip_ (w1 := World.setRow w2 g #[.int .u8 o1, .string o2, .bool o3, .int .u8 o4, .int .i64 o5, .int .i64 o6]) (by rfl) rfl ?_ ?_
  · refine run_store_row 41 (.tmp 4) (.tmp 39) ?_ g ?_ 41 _ #[.int .u8 o1, .string o2, .bool o3, .int .u8 o4, .int .i64 o5, .int .i64 o6] ?_ K4.out (by kernel_rfl) rfl (by kernel_rfl)
    · rfl
    · rfl
    · rfl
  replace HB := Aside0.mk (below_setRow HB.out L4.out #[.int .u8 o1, .string o2, .bool o3, .int .u8 o4, .int .i64 o5, .int .i64 o6])
  replace K4 := Aside0.mk (blk_row K4.out #[.int .u8 o1, .string o2, .bool o3, .int .u8 o4, .int .i64 o5, .int .i64 o6])
  replace x0 := (cell_row_far x0 NE.out #[.int .u8 o1, .string o2, .bool o3, .int .u8 o4, .int .i64 o5, .int .i64 o6])
  replace x1 := (cell_row_far x1 NE.out #[.int .u8 o1, .string o2, .bool o3, .int .u8 o4, .int .i64 o5, .int .i64 o6])
  replace x2 := (cell_row_far x2 NE.out #[.int .u8 o1, .string o2, .bool o3, .int .u8 o4, .int .i64 o5, .int .i64 o6])
  replace x3 := (cell_row_far x3 NE.out #[.int .u8 o1, .string o2, .bool o3, .int .u8 o4, .int .i64 o5, .int .i64 o6])
  replace x4 := (cell_row_far x4 NE.out #[.int .u8 o1, .string o2, .bool o3, .int .u8 o4, .int .i64 o5, .int .i64 o6])
  replace x5 := (cell_row_far x5 NE.out #[.int .u8 o1, .string o2, .bool o3, .int .u8 o4, .int .i64 o5, .int .i64 o6])
  refine hK.out _ _ ⟨x0, x1, x2, x3, x4, x5⟩ (fun hHeld => ?_)
  clear hK K
  refine pure_ (i := 9) (N := some 5) (v := ?_) (a' := ?_) #[true, true, true, true, true, true, true, true, true, true, false] rfl rfl (by kernel_rfl) (fun _ _ _ h => h) (Or.inl ⟨by rfl, ?_⟩) ?_ ?_
  rotate_left
  · intro w'
    go_simp
    with_reducible rfl
  rotate_left
  · simp only [Act.put, List.setIfInBounds_toArray, List.set_cons_zero, List.set_cons_succ, i64_w, i32_w]
    rfl
  refine pure_ (i := 10) (N := some 6) (v := ?_) (a' := ?_) #[true, true, true, true, true, true, true, true, true, true, true] rfl rfl (by kernel_rfl) (fun _ _ _ h => h) (Or.inl ⟨by rfl, ?_⟩) ?_ ?_
  rotate_left
  · intro w'
    go_simp
    with_reducible rfl
  rotate_left
  · simp only [Act.put, List.setIfInBounds_toArray, List.set_cons_zero, List.set_cons_succ, i64_w, i32_w]
    rfl
  refine done_ (by kernel_rfl) ?_
  go_wp2
  refine bodyPost_ret (results_list (rs := [.cell 4 41, .tmp 5, .tmp 6]) rfl (by simp) (.cell g 41 #[.int .u8 o1, .string o2, .bool o3, .int .u8 o4, .int .i64 o5, .int .i64 o6] (0, 0) _ rfl K4.out Tryz.underlying41 rfl (by kernel_rfl) (.tmp (.tmp .nil)))) rfl ⟨rfl, HB.out⟩
set_option maxRecDepth 100000 in
set_option maxHeartbeats 4000000 in
theorem Decode_0 (a0 : Int) (a1 : Bool) (h : a0 > 32767) (w : World) :
    Calls Tryz.prog 45 #[.int .u16 a0, .bool a1] w fun e w' => e = .returned (.tuple #[.agg #[.int .u8 0, .string (⟨#[]⟩ : ByteArray), .bool false, .int .u8 0, .int .i64 0, .int .i64 0], .int .i64 0, .int .i64 3]) ∧ Below w.heap.size w w' := by
  have HB0 := Aside0.mk (Below.refl w.heap.size w)
  have HB := HB0
  have c0 : decide (32767 < a0) = true := decide_eq_true h
  clear h
  go_enter Tryz.func45, Tryz.ntmps45
  go_wp2_with (first | ((with_reducible refine gate_dst (N := 4) rfl ?_); refine box_event ?hg (N := 4) ?hd (cs := #[.int .u8 0, .string (⟨#[]⟩ : ByteArray), .bool false, .int .u8 0, .int .i64 0, .int .i64 0]) (t := 41) ?hr ?_; (case hd => rfl); (case hg => rfl); (case hr => kernel_rfl); intro g hg w4 K hb; have HB := Aside0.mk (below_step HB.out hb); have K4 := Aside0.mk K; have L4 := Aside0.mk (show w.heap.size ≤ g from by rw [hg]; exact HB0.out.size); clear K hb hg HB0) | ((with_reducible refine gate_dst (N := 12) rfl ?_); refine Kd.event_run (v := .agg #[.int .u8 0, .string (⟨#[]⟩ : ByteArray), .bool false, .int .u8 0, .int .i64 0, .int .i64 0]) (w1 := w4) rfl ?hr2 ?_; (case hr2 => kernel_rfl)) | (refine store_row_ rfl 41 (.tmp 4) (.tmp 12) rfl g rfl 41 _ #[.int .u8 0, .string (⟨#[]⟩ : ByteArray), .bool false, .int .u8 0, .int .i64 0, .int .i64 0] rfl K4.out ?hi ?hs ?h1 ?_; (case hi => kernel_rfl); (case hs => rfl); (case h1 => kernel_rfl)))
  refine bodyPost_ret (results_list (rs := [.cell 4 41, .tmp 5, .tmp 6]) rfl (by simp) (.cell g 41 #[.int .u8 0, .string (⟨#[]⟩ : ByteArray), .bool false, .int .u8 0, .int .i64 0, .int .i64 0] (0, 0) _ rfl (blk_row K4.out _) Tryz.underlying41 rfl (by kernel_rfl) (.tmp (.tmp .nil)))) rfl ⟨rfl, below_setRow HB.out L4.out _⟩
theorem isa_Decode.calls (k : Nat) (a0 : Int) (a1 : Bool) (r1 : Int) (r2 : ByteArray) (r3 : Bool) (r4 : Int) (r5 : Int) (r6 : Int) (r7 : Int) (r8 : Int) (w : World) (h : isa_Decode.f k a0 a1 = some (r1, r2, r3, r4, r5, r6, r7, r8)) :
    Calls Tryz.prog 45 #[.int .u16 a0, .bool a1] w fun e w' => e = .returned (.tuple #[.agg #[.int .u8 r1, .string r2, .bool r3, .int .u8 r4, .int .i64 r5, .int .i64 r6], .int .i64 r7, .int .i64 r8]) ∧ Below w.heap.size w w' := by
  unfold isa_Decode.f at h
  by_cases hc : a0 > 32767
  · rw [if_pos hc] at h
    cases h
    exact Decode_0 a0 a1 hc w
  rw [if_neg hc] at h
  by_cases h0 : 0 ≤ a0
  case neg => rw [if_neg h0] at h; cases h
  rw [if_pos h0] at h
  obtain ⟨c, hd, h⟩ := Option.bind_eq_some_iff.mp h
  obtain ⟨⟨o1, o2, o3, o4, o5, o6, o7⟩, ho, h⟩ := Option.bind_eq_some_iff.mp h
  obtain ⟨⟨b1, b2, b3, b4⟩, hr, h⟩ := Option.bind_eq_some_iff.mp h
  cases h
  unfold decC at hd
  cases a1 with
  | true => rw [if_pos rfl] at hd; exact Decode_1 k a0 c _ _ _ _ _ _ _ _ _ _ _ h0 (by omega) hd ho hr w
  | false =>
    rw [if_neg (by decide)] at hd
    by_cases n3 : a0 = 3
    · rw [if_pos n3] at hd; cases hd; subst n3; exact Decode_w3 _ _ _ _ _ _ _ _ _ _ _ ho hr w
    rw [if_neg n3] at hd
    by_cases n4 : a0 = 4
    · rw [if_pos n4] at hd; cases hd; subst n4; exact Decode_w4 _ _ _ _ _ _ _ _ _ _ _ ho hr w
    rw [if_neg n4] at hd
    by_cases n6 : a0 = 6
    · rw [if_pos n6] at hd; cases hd; subst n6; exact Decode_w6 _ _ _ _ _ _ _ _ _ _ _ ho hr w
    rw [if_neg n6] at hd
    by_cases n5 : a0 = 20495
    · rw [if_pos n5] at hd; cases hd; subst n5; exact Decode_w20495 _ _ _ _ _ _ _ _ _ _ _ ho hr w
    rw [if_neg n5] at hd
    exact Decode_2 k a0 c _ _ _ _ _ _ _ _ _ _ _ h0 (by omega) n3 n4 n6 n5 hd ho hr w
end Go.Proofs.YthfobpkdloejfaaGreat.PAll
end
