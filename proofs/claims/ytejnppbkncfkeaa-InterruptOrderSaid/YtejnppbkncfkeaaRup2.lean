/- Choose, May, Leave, Enter: contracts with closed forms; numbers in their kinds' ranges, no other condition. -/
import Derived.Test.YtejnppbkncfkeaaRup1
namespace Go.Proofs.Ytejnppbkncfkeaa.Rup
open Go.RowKit Go.Shelf Go.Proofs.Ytejnppbkncfkeaa.PAll Go.Proofs.YtejnppbkncfkeaaW.PrintWords Go.Proofs.YtejnppbkncfkeaaW.PrintLast Go.Proofs.YtejnppbkncfkeaaW.PrintMore Go.Proofs.Ytejnppbkncfkeaa.Plain
set_option linter.unusedVariables false
set_option linter.unusedSimpArgs false
attribute [local go_sem] Oper.semAt_some
theorem pL_ten (s : Int) : pL s 10 = L10.filter (wt s) := rfl
theorem chI_head (s : Int) : (pL s 10).head? = chI s := by rw [pL_ten, List.head?_filter]; rfl
theorem Waits_mem (s x : Int) : decide (x ∈ pL s 10) = wtB s x := by
  rw [pL_ten, Bool.eq_iff_iff, decide_eq_true_iff, List.mem_filter]
  unfold wtB L10
  rw [mem_upL, Bool.and_eq_true, decide_eq_true_iff]
  constructor
  · rintro ⟨h, k⟩; exact ⟨by omega, k⟩
  · rintro ⟨h, k⟩; exact ⟨by omega, k⟩
theorem Waits_c (s x : Int) (s0 : 0 ≤ s) (s1 : s < 65536) (w : World) :
    Calls Try.prog 16 #[.agg #[.int .u16 s], .int .i64 x] w fun e w' => e = .returned (.bool (wtB s x)) ∧ Below w.heap.size w w' := by
  rw [← Waits_mem]
  exact callsIn_wide.1 (Waits_in 3 (by decide) s x s0 s1 w)
theorem Allowed_c (a l q z eb fb su : Int) (ext : Bool) (idx : Int) (held : Bool) (b : Int) (inh srv : Bool) (w : World) :
    Calls Try.prog 20 #[.agg #[.int .u16 a, .int .u16 l, .int .u16 q, .int .i64 z, .int .i64 eb, .int .i64 fb, .int .i64 su, .bool ext, .int .u16 idx, .bool held, .int .u16 b, .bool inh, .bool srv]] w fun e w' => e = .returned (.bool (alB a idx ext held inh srv)) ∧ Below w.heap.size w w' :=
  interrupt_Allowed.calls 10 a l q z eb fb su ext idx held b inh srv _ w (pAl (by decide))
theorem Boxed.below {W W' : World} {B : Nat} {t : TypeId} {v : Value} {n : Nat} (h : Boxed W B t v) (hb : Below n W W') (hn : B < n) : Boxed W' B t v := (hb.block B hn).trans h
set_option maxRecDepth 100000 in
set_option maxHeartbeats 4000000 in
theorem Choose_in (n : Nat) (hn : 3 ≤ n) (s : Int) (a l q z eb fb su : Int) (ext : Bool) (idx : Int) (held : Bool) (b : Int) (inh srv : Bool) (s0 : 0 ≤ s) (s1 : s < 65536) (w : World) :
    CallsIn Fence.wide n Try.prog 18 #[.agg #[.int .u16 s], .agg #[.int .u16 a, .int .u16 l, .int .u16 q, .int .i64 z, .int .i64 eb, .int .i64 fb, .int .i64 su, .bool ext, .int .u16 idx, .bool held, .int .u16 b, .bool inh, .bool srv]] w fun e W' => e = .returned (.tuple #[.int .i64 (if alB a idx ext held inh srv = true then chR (chI s) else (0, false)).1, .bool (if alB a idx ext held inh srv = true then chR (chI s) else (0, false)).2]) ∧ Below w.heap.size w W' := by
  have h1 : 1 ≤ n := by omega
  have AC := Lib.hid (fun w => Allowed_c a l q z eb fb su ext idx held b inh srv w)
  refine callsIn_of_wp_marks Try.func18 rfl trivial ?_ rfl
  simp only [Try.ntmps18, List.size_toArray, List.length_cons, List.length_nil, Nat.reduceAdd, Nat.reduceSub, Array.replicate_succ, Array.replicate_zero, List.push_toArray, List.append_toArray, List.nil_append, List.cons_append]
  have bS := Lib.hid ((((Boxed.new w 28 (.int .u16 s)).alloc (.cells #[.int .u16 a, .int .u16 l, .int .u16 q, .int .i64 z, .int .i64 eb, .int .i64 fb, .int .i64 su, .bool ext, .int .u16 idx, .bool held, .int .u16 b, .bool inh, .bool srv] 26)).alloc (.cells #[.int .i64 0] 3)).alloc (.cells #[.bool false] 4))
  have bI0 := (Boxed.new ((w.alloc (.cells #[.int .u16 s] 28)).alloc (.cells #[.int .u16 a, .int .u16 l, .int .u16 q, .int .i64 z, .int .i64 eb, .int .i64 fb, .int .i64 su, .bool ext, .int .u16 idx, .bool held, .int .u16 b, .bool inh, .bool srv] 26)) 3 (.int .i64 0)).alloc (.cells #[.bool false] 4)
  rw [World.size_alloc, World.size_alloc] at bI0
  have bI := Lib.hid bI0
  have bO0 := Boxed.new (((w.alloc (.cells #[.int .u16 s] 28)).alloc (.cells #[.int .u16 a, .int .u16 l, .int .u16 q, .int .i64 z, .int .i64 eb, .int .i64 fb, .int .i64 su, .bool ext, .int .u16 idx, .bool held, .int .u16 b, .bool inh, .bool srv] 26)).alloc (.cells #[.int .i64 0] 3)) 4 (.bool false)
  rw [World.size_alloc, World.size_alloc, World.size_alloc] at bO0
  have bO := Lib.hid bO0
  have hB0 := Aside0.mk (show Below w.heap.size w ((((w.alloc (.cells #[.int .u16 s] 28)).alloc (.cells #[.int .u16 a, .int .u16 l, .int .u16 q, .int .i64 z, .int .i64 eb, .int .i64 fb, .int .i64 su, .bool ext, .int .u16 idx, .bool held, .int .u16 b, .bool inh, .bool srv] 26)).alloc (.cells #[.int .i64 0] 3)).alloc (.cells #[.bool false] 4)) from ((((Below.refl _ w).alloc (Nat.le_refl _) _).alloc (by simp) _).alloc (by simp <;> omega) _).alloc (by simp <;> omega) _)
  clear bI0 bO0
  cases hal : alB a idx ext held inh srv with
  | false =>
    rw [hal] at AC
    gi_wp2_with (refine ⟨trivial, ?_⟩; gi_at_call 20; refine (callsIn_wide.2 (AC.out _)).mono ?_; rintro e wa ⟨rfl, hb⟩; have cI := Boxed.below bI.out hb (by simp <;> omega); have cO := Boxed.below bO.out hb (by simp); have hBa := Aside0.mk (hB0.out.trans (hb.mono (by simp <;> omega))); clear hb; have cI0 := cI.cell; have cI1 := cI.frozen; have cO0 := cO.cell; have cO1 := cO.frozen; replace cI := Lib.hid cI; replace cO := Lib.hid cO)
    refine ⟨.tuple #[.int .i64 0, .bool false], ?_, rfl, (hBa.out.setCell (p := ⟨w.heap.size + 1 + 1, 0, none⟩) (by simp <;> omega) _).setCell (p := ⟨w.heap.size + 1 + 1 + 1, 0, none⟩) (by simp <;> omega) _⟩
    have d0 := (World.cell?_setCell_far (wa.setCell ⟨w.heap.size + 1 + 1, 0, none⟩ (.int .i64 0)) ⟨w.heap.size + 1 + 1 + 1, 0, none⟩ ⟨w.heap.size + 1 + 1, 0, none⟩ (.bool false) (by simp)).trans (World.cell?_setCell_same' wa ⟨w.heap.size + 1 + 1, 0, none⟩ (.int .i64 0) (by rw [cI0]; rfl))
    have d1 := World.cell?_setCell_same' (wa.setCell ⟨w.heap.size + 1 + 1, 0, none⟩ (.int .i64 0)) ⟨w.heap.size + 1 + 1 + 1, 0, none⟩ (.bool false) (by rw [World.cell?_setCell_far wa ⟨w.heap.size + 1 + 1, 0, none⟩ ⟨w.heap.size + 1 + 1 + 1, 0, none⟩ _ (by simp), cO0]; rfl)
    simp [results, Try.f18, go_sem, d0, d1]
  | true =>
    rw [hal] at AC
    gi_wp2_with (first | (refine ⟨trivial, ?_⟩; gi_at_call 20; refine (callsIn_wide.2 (AC.out _)).mono ?_; rintro e wa ⟨rfl, hb⟩; have cS := Boxed.below bS.out hb (by simp <;> omega); have cI := Boxed.below bI.out hb (by simp <;> omega); have cO := Boxed.below bO.out hb (by simp); have hBa := Aside0.mk (hB0.out.trans (hb.mono (by simp <;> omega))); have hsz := Aside0.mk (show w.heap.size + 1 + 1 + 1 + 1 ≤ wa.heap.size by have := hb.size; simp at this; omega); clear hb; have cS0 := cS.cell; replace cS := Lib.hid cS; replace cI := Lib.hid cI; replace cO := Lib.hid cO) | (refine ⟨trivial, ?_⟩; gi_at_call 29; refine (waiting_in (n - 1) _ _).mono ?_; rintro e w' ⟨rfl, rfl⟩))
    have hszo := hsz.out
    have bN := Boxed.new wa 28 (.int .u16 s)
    refine wpIn_rangeFunc_ownG rfl h1 (gf := 33) (lb := #[.pointer (some ⟨wa.heap.size, 0, none⟩)]) rfl trivial (enters_of Try.func33 (by kernel_rfl) rfl)
      (waiting_stops (n - 1) (by omega) wa.heap.size w.heap.size s s0 s1 _ (by simp) bN.cell) KB_t (KB_b (by simp <;> omega)) (Below.refl _ _) (fun _ => rfl)
      (fun pre W => (pre = [] ∧ W.cell? ⟨w.heap.size + 1 + 1, 0, none⟩ = some (.int .i64 0) ∧ W.frozen? ⟨w.heap.size + 1 + 1, 0, none⟩ = false ∧ W.cell? ⟨w.heap.size + 1 + 1 + 1, 0, none⟩ = some (.bool false) ∧ W.frozen? ⟨w.heap.size + 1 + 1 + 1, 0, none⟩ = false) ∧ Below w.heap.size w W)
      (fun c pre W => (c = .ret ∧ ∃ y, pre = [y] ∧ W.cell? ⟨w.heap.size + 1 + 1, 0, none⟩ = some (.int .i64 y) ∧ W.cell? ⟨w.heap.size + 1 + 1 + 1, 0, none⟩ = some (.bool true)) ∧ Below w.heap.size w W)
      (OwnFrom.and (Own.from (fun s A B row hs hg hr => ⟨hs.1, cell_kept hs.2.1 hg hr, (frozen_kept hs.2.1 hg hr).trans hs.2.2.1, cell_kept hs.2.2.2.1 hg hr, (frozen_kept hs.2.2.2.1 hg hr).trans hs.2.2.2.2⟩) _) (ownFrom_below (Nat.le_refl _) (by simp <;> omega)))
      (fun c => OwnFrom.and (Own.from (fun s A B row hs hg hr => by obtain ⟨h1, y, h2, h3, h4⟩ := hs; exact ⟨h1, y, h2, cell_kept h3 hg hr, cell_kept h4 hg hr⟩) _) (ownFrom_below (Nat.le_refl _) (by simp <;> omega)))
      ⟨⟨rfl, (cI.out.alloc _).cell, (cI.out.alloc _).frozen, (cO.out.alloc _).cell, (cO.out.alloc _).frozen⟩, hBa.out.alloc (by omega) _⟩
      (fun y => { tmps := #[.agg #[.int .u16 s], .agg #[.int .u16 a, .int .u16 l, .int .u16 q, .int .i64 z, .int .i64 eb, .int .i64 fb, .int .i64 su, .bool ext, .int .u16 idx, .bool held, .int .u16 b, .bool inh, .bool srv], .pointer (some ⟨w.heap.size, 0, none⟩), .pointer (some ⟨w.heap.size + 1, 0, none⟩), .pointer (some ⟨w.heap.size + 1 + 1, 0, none⟩), .pointer (some ⟨w.heap.size + 1 + 1 + 1, 0, none⟩), .int .i64 y, .agg #[.int .u16 a, .int .u16 l, .int .u16 q, .int .i64 z, .int .i64 eb, .int .i64 fb, .int .i64 su, .bool ext, .int .u16 idx, .bool held, .int .u16 b, .bool inh, .bool srv], .bool true, .agg #[.int .u16 s], .func (.func 33) #[] #[.pointer (some ⟨wa.heap.size, 0, none⟩)], .int .i64 y, undef], defers := [] }) ?assign ?body ?done ?stop
    case assign =>
      intro l y W K hK
      gi_wp2
      exact hK
    case body =>
      rintro l pre y W ⟨⟨rfl, hc0, hf0, hc1, hf1⟩, hB⟩ _
      gi_wp2
      refine ⟨((KeepsOthers.setCell _ _ _).trans (KeepsOthers.setCell _ _ _)).from _, ⟨rfl, y, rfl, ?_, ?_⟩, (hB.setCell (p := ⟨w.heap.size + 1 + 1, 0, none⟩) (by simp <;> omega) _).setCell (p := ⟨w.heap.size + 1 + 1 + 1, 0, none⟩) (by simp <;> omega) _⟩
      · exact (World.cell?_setCell_far _ ⟨w.heap.size + 1 + 1 + 1, 0, none⟩ ⟨w.heap.size + 1 + 1, 0, none⟩ (.bool true) (by simp)).trans (World.cell?_setCell_same' _ _ _ (by rw [hc0]; rfl))
      · exact World.cell?_setCell_same' _ ⟨w.heap.size + 1 + 1 + 1, 0, none⟩ (.bool true) (by rw [World.cell?_setCell_far _ ⟨w.heap.size + 1 + 1, 0, none⟩ ⟨w.heap.size + 1 + 1 + 1, 0, none⟩ _ (by simp), hc1]; rfl)
    case done =>
      rintro D ys W hD hys ⟨⟨hnil, hc0, hf0, hc1, hf1⟩, hB⟩ hK
      have hch := Lib.hid (show chI s = none by rw [← chI_head, ← hys, hnil]; rfl)
      gi_wp2
      have hK1 := (KeepsOthers.setCell W ⟨w.heap.size + 1 + 1, 0, none⟩ (.int .i64 0)).same D _ hK rfl
      have hK' := (KeepsOthers.setCell (W.setCell ⟨w.heap.size + 1 + 1, 0, none⟩ (.int .i64 0)) ⟨w.heap.size + 1 + 1 + 1, 0, none⟩ (.bool false)).same D _ hK1 rfl
      have d0 := (World.cell?_setCell_far (W.setCell ⟨w.heap.size + 1 + 1, 0, none⟩ (.int .i64 0)) ⟨w.heap.size + 1 + 1 + 1, 0, none⟩ ⟨w.heap.size + 1 + 1, 0, none⟩ (.bool false) (by simp)).trans (World.cell?_setCell_same' W ⟨w.heap.size + 1 + 1, 0, none⟩ (.int .i64 0) (by rw [hc0]; rfl))
      have d1 := World.cell?_setCell_same' (W.setCell ⟨w.heap.size + 1 + 1, 0, none⟩ (.int .i64 0)) ⟨w.heap.size + 1 + 1 + 1, 0, none⟩ (.bool false) (by rw [World.cell?_setCell_far W ⟨w.heap.size + 1 + 1, 0, none⟩ ⟨w.heap.size + 1 + 1 + 1, 0, none⟩ _ (by simp), hc1]; rfl)
      refine ⟨by simp, .inl ⟨_, _, rfl, run_takeDeferred hK', ?_⟩⟩
      have e0 := cell_kept d0 (grownBy_putObj' _ D (.deferred none)) (fun r e => by cases e; exact ⟨_, hK', rfl⟩)
      have e1 := cell_kept d1 (grownBy_putObj' _ D (.deferred none)) (fun r e => by cases e; exact ⟨_, hK', rfl⟩)
      refine ⟨.tuple #[.int .i64 0, .bool false], ?_, by rw [hch.out]; rfl, ((hB.setCell (p := ⟨w.heap.size + 1 + 1, 0, none⟩) (by simp <;> omega) _).setCell (p := ⟨w.heap.size + 1 + 1 + 1, 0, none⟩) (by simp <;> omega) _).trans (belowK_b (w := w) (Nat.le_refl _) _ D _ _ (by simp at hD; omega) hK' rfl rfl)⟩
      simp [results, Try.f18, go_sem, e0, e1]
    case stop =>
      rintro D c pre W hD hpre ⟨⟨rfl, y, rfl, hc0, hc1⟩, hB⟩ hK
      have hch := Lib.hid (show chI s = some y by rw [← chI_head]; obtain ⟨r, hr⟩ := hpre; rw [← hr]; rfl)
      gi_wp2
      refine ⟨by simp, .inl ⟨_, _, rfl, run_takeDeferred hK, ?_⟩⟩
      have e0 := cell_kept hc0 (grownBy_putObj' _ D (.deferred none)) (fun r e => by cases e; exact ⟨_, hK, rfl⟩)
      have e1 := cell_kept hc1 (grownBy_putObj' _ D (.deferred none)) (fun r e => by cases e; exact ⟨_, hK, rfl⟩)
      refine ⟨.tuple #[.int .i64 y, .bool true], ?_, by rw [hch.out]; rfl, hB.trans (belowK_b (w := w) (Nat.le_refl _) W D _ _ (by simp at hD; omega) hK rfl rfl)⟩
      simp [results, Try.f18, go_sem, e0, e1]
theorem Choose_c (s : Int) (a l q z eb fb su : Int) (ext : Bool) (idx : Int) (held : Bool) (b : Int) (inh srv : Bool) (s0 : 0 ≤ s) (s1 : s < 65536) (w : World) :
    Calls Try.prog 18 #[.agg #[.int .u16 s], .agg #[.int .u16 a, .int .u16 l, .int .u16 q, .int .i64 z, .int .i64 eb, .int .i64 fb, .int .i64 su, .bool ext, .int .u16 idx, .bool held, .int .u16 b, .bool inh, .bool srv]] w fun e w' => e = .returned (.tuple #[.int .i64 (if alB a idx ext held inh srv = true then chR (chI s) else (0, false)).1, .bool (if alB a idx ext held inh srv = true then chR (chI s) else (0, false)).2]) ∧ Below w.heap.size w w' :=
  callsIn_wide.1 (Choose_in 3 (by decide) s a l q z eb fb su ext idx held b inh srv s0 s1 w)
end Go.Proofs.Ytejnppbkncfkeaa.Rup
