/- The iterator over the pending interrupts, and Waits, Choose: contracts; the numbers below 65536 only. -/
import Derived.RangeFuncNested
import Derived.RangeFuncBound
import Derived.RangeFuncCalls
import Derived.RangeFuncLeaves
import Derived.RangeFuncBox
import Derived.Shelf.Abstract
import Derived.Shelf.RegionOpen
import Derived.WalkKit
import Derived.OwnWalkIn
import Derived.TacticsInMore
import Derived.LoopNIn
import Derived.LoopIn
import Derived.Maps.AppendAt
import Derived.Lib.Hide
import Derived.Test.YtejnppbkncfkeaaRup
namespace Go.Proofs.Ytejnppbkncfkeaa.Rup
open Go.RowKit Go.Shelf Go.Proofs.Ytejnppbkncfkeaa.PAll Go.Proofs.YtejnppbkncfkeaaW.PrintWords Go.Proofs.YtejnppbkncfkeaaW.PrintLast Go.Proofs.YtejnppbkncfkeaaW.PrintMore Go.Proofs.Ytejnppbkncfkeaa.Plain
set_option linter.unusedVariables false
set_option linter.unusedSimpArgs false
attribute [local go_sem] Oper.semAt_some
/-- The pending interrupts up to k. -/
def pL (s : Int) (k : Nat) : List Int := (L10.take k).filter (wt s)
theorem L10_len : L10.length = 10 := rfl
theorem L10_at (k : Nat) (h : k < 10) : L10[k]? = some ((k : Int) + 1) := by
  have : ∀ k : Nat, k < 10 → L10[k]? = some ((k : Int) + 1) := by decide
  exact this k h
theorem take_step (k : Nat) (h : k < 10) : L10.take (k + 1) = L10.take k ++ [(k : Int) + 1] := by
  have hk : k < L10.length := by rw [L10_len]; exact h
  have e := L10_at k h
  rw [List.getElem?_eq_getElem hk] at e
  rw [List.take_succ_eq_append_getElem hk, Option.some.inj e]
theorem pL_yes (s : Int) (k : Nat) (h : k < 10) (hw : wt s ((k : Int) + 1) = true) : pL s (k + 1) = pL s k ++ [(k : Int) + 1] := by
  unfold pL; rw [take_step k h, List.filter_append]; simp [hw]
theorem pL_no (s : Int) (k : Nat) (h : k < 10) (hw : wt s ((k : Int) + 1) = false) : pL s (k + 1) = pL s k := by
  unfold pL; rw [take_step k h, List.filter_append]; simp [hw]
theorem pL_len (s : Int) (k : Nat) : (pL s k).length ≤ k := by
  unfold pL; exact Nat.le_trans (List.length_filter_le _ _) (by rw [List.length_take]; omega)
theorem pL_pre (s : Int) (k : Nat) (h : k ≤ 10) : pL s k <+: pL s 10 := by
  unfold pL
  have : L10.take 10 = L10 := rfl
  rw [this]
  exact (List.take_prefix k L10).filter _
/-- What a round keeps: what lay below n₀, and the iterator's own box. -/
def KB (n₀ Bs : Nat) (W W' : World) : Prop := Below n₀ W W' ∧ ∀ v, W.cell? ⟨Bs, 0, none⟩ = some v → W'.cell? ⟨Bs, 0, none⟩ = some v
set_option maxRecDepth 100000 in
set_option maxHeartbeats 2000000 in
theorem waiting1_in (n : Nat) (hn : 1 ≤ n) (l Bs n₀ : Nat) (s : Int) (s0 : 0 ≤ s) (s1 : s < 65536)
    (J Jx : List Int → World → Prop)
    (hY : ∀ pre x W, J pre W → pre.length < 10 → YieldAt Fence.wide (n - 1) Try.prog l #[.int .i64 x] W fun e W' =>
      (e = .returned (.bool true) ∧ J (pre ++ [x]) W' ∧ KB n₀ Bs W W') ∨ (e = .returned (.bool false) ∧ Jx (pre ++ [x]) W'))
    (W : World) (hBs : W.cell? ⟨Bs, 0, none⟩ = some (.int .u16 s)) (h0 : J [] W) :
    CallsIn Fence.wide n Try.prog 33 #[.func (.yield l) #[] #[], .pointer (some ⟨Bs, 0, none⟩)] W fun e W' => (∃ v, e = .returned v) ∧
      ((∃ ys, ys = pL s 10 ∧ J ys W') ∨ (∃ pre, (pre <+: pL s 10) ∧ Jx pre W')) := by
  refine callsIn_of_wp Try.func33 rfl trivial ?_ rfl
  simp only [Try.ntmps33, List.size_toArray, List.length_cons, List.length_nil, Nat.reduceAdd, Nat.reduceSub, Array.replicate_succ, Array.replicate_zero, List.push_toArray, List.append_toArray, List.nil_append, List.cons_append]
  gi_wp2
  gi_loopw [3] (fun i wr => ∃ (k : Nat) (j : Int), Aside0 (k ≤ 10) ∧ Aside0 (j = (k : Int) + 1) ∧ i = .int .i64 j ∧ J (pL s k) wr ∧ wr.cell? ⟨Bs, 0, none⟩ = some (.int .u16 s))
    (fun i _ => 11 - (intOf i).toNat)
  case atStart => exact ⟨0, 1, ⟨by decide⟩, ⟨rfl⟩, rfl, h0, hBs⟩
  case round =>
    obtain ⟨k, j, hk, hj, rfl, hJs, hc⟩ := hrel
    by_cases hlt : k < 10
    · have b0 : decide (j ≤ 10) = true := decide_eq_true (by have := hj.out; omega)
      have p0 : j ≤ 10 := by have := hj.out; omega
      have q0 : 0 ≤ j := by have := hj.out; omega
      have hW := pWd s0 s1 (i := j) (by have := hj.out; omega) p0
      have u1 : wrap64 (j + 1) = j + 1 := w64 (by omega) (by omega)
      cases hb : wt s j with
      | false =>
        have hb2 := Lib.hid (pL_no s k hlt (by rw [← hj.out]; exact hb))
        rw [hb, if_neg (by decide)] at hW
        clear hb
        gi_wp2
        refine ⟨fun _ h => (by cases h), ?_⟩
        gi_wp2
        go_roundw
        case rel => exact ⟨k + 1, j + 1, ⟨by omega⟩, ⟨by have := hj.out; push_cast; omega⟩, by simp [u1], by rw [hb2.out]; exact hJs, hc⟩
        case measure => simp [intOf, u1]; omega
      | true =>
        have hb2 := Lib.hid (pL_yes s k hlt (by rw [← hj.out]; exact hb))
        rw [hb, if_pos rfl] at hW
        clear hb
        obtain ⟨fn, tmps, assign, body, hy, hR⟩ := hY (pL s k) j wr hJs (by have := pL_len s k; omega)
        gi_wp2
        refine hR.mono ?_
        rintro e W3 (⟨rfl, hJ3, hk3⟩ | ⟨rfl, hJx3⟩)
        · have hc3 := hk3.2 _ hc
          gi_wp2
          go_roundw
          case rel => exact ⟨k + 1, j + 1, ⟨by omega⟩, ⟨by have := hj.out; push_cast; omega⟩, by simp [u1], by rw [hb2.out, ← hj.out]; exact hJ3, hc3⟩
          case measure => simp [intOf, u1]; omega
        · gi_wp2
          refine bodyPost_ret (results_none rfl _ _ _) rfl ?_
          refine ⟨⟨_, rfl⟩, .inr ⟨_, ?_, hJx3⟩⟩
          rw [hj.out, ← hb2.out]
          exact pL_pre s (k + 1) (by omega)
    · have b0 : decide (j ≤ 10) = false := decide_eq_false (by have := hj.out; omega)
      obtain rfl : k = 10 := by have := hk.out; omega
      gi_wp2
      go_end0
      exact ⟨⟨_, rfl⟩, .inl ⟨_, rfl, hJs⟩⟩
set_option maxHeartbeats 1000000 in
theorem waiting_in (n : Nat) (s : Int) (w : World) :
    CallsIn Fence.wide n Try.prog 29 #[.agg #[.int .u16 s]] w fun e w' => e = .returned (.func (.func 33) #[] #[.pointer (some ⟨w.heap.size, 0, none⟩)]) ∧ w' = w.alloc (.cells #[.int .u16 s] 28) := by
  refine callsIn_of_wp Try.func29 rfl trivial ?_ rfl
  simp only [Try.ntmps29, List.size_toArray, List.length_cons, List.length_nil, Nat.reduceAdd, Nat.reduceSub, Array.replicate_succ, Array.replicate_zero, List.push_toArray, List.append_toArray, List.nil_append, List.cons_append]
  gi_wp2
  go_ret
  exact ⟨rfl, rfl⟩
theorem waiting_stops (n : Nat) (hn : 1 ≤ n) (Bs n₀ : Nat) (s : Int) (s0 : 0 ≤ s) (s1 : s < 65536) (w : World) (hBs : Bs < w.heap.size) (hc : w.cell? ⟨Bs, 0, none⟩ = some (.int .u16 s)) :
    SeqStopsK Fence.wide n Try.prog 33 #[.pointer (some ⟨Bs, 0, none⟩)] (fun x : Int => #[Value.int .i64 x]) (KB n₀ Bs) (fun ys => ys = pL s 10) (fun pre => pre <+: pL s 10) 10 w := fun l J Jx W hW hJ hJx hY h0 =>
  waiting1_in n hn l Bs n₀ s s0 s1 J Jx hY W ((hW.cell (p := ⟨Bs, 0, none⟩) hBs).trans hc) h0
/-- Kp of our two callers: what a putObj of a block that is no cells keeps. -/
theorem KB_t {n₀ Bs : Nat} {A B C : World} (h : KB n₀ Bs A B) (k : KB n₀ Bs B C) : KB n₀ Bs A C := ⟨h.1.trans k.1, fun v hv => k.2 v (h.2 v hv)⟩
theorem KB_refl {n₀ Bs : Nat} (W : World) : KB n₀ Bs W W := ⟨Below.refl _ _, fun _ h => h⟩
theorem KB_b {n₀ Bs : Nat} {w : World} (hn : n₀ ≤ w.heap.size) (W : World) (l : Nat) (o o' : Obj) (hl : w.heap.size ≤ l) (hW : W.heap[l]? = some o) (hc : o.isCells = false) (hw : o.isWalk = false) : KB n₀ Bs W (W.putObj l o') := by
  refine ⟨belowK_b hn W l o o' hl hW hc hw, fun v hv => cell_kept hv (grownBy_putObj' W l o') (fun r e => by cases e; exact ⟨o, hW, hc⟩)⟩
theorem KB_set {n₀ Bs : Nat} (W : World) {b : Nat} (hb : n₀ ≤ b) (hne : b ≠ Bs) (v : Value) : KB n₀ Bs W (W.setCell ⟨b, 0, none⟩ v) :=
  ⟨(Below.refl n₀ W).setCell (p := ⟨b, 0, none⟩) hb _, fun u hu => (World.cell?_setCell_far W ⟨b, 0, none⟩ ⟨Bs, 0, none⟩ v hne).trans hu⟩
set_option maxRecDepth 100000 in
set_option maxHeartbeats 2000000 in
theorem Waits_in (n : Nat) (hn : 3 ≤ n) (s x : Int) (s0 : 0 ≤ s) (s1 : s < 65536) (w : World) :
    CallsIn Fence.wide n Try.prog 16 #[.agg #[.int .u16 s], .int .i64 x] w fun e W' => e = .returned (.bool (decide (x ∈ pL s 10))) ∧ Below w.heap.size w W' := by
  have h1 : 1 ≤ n := by omega
  refine callsIn_of_wp_marks Try.func16 rfl trivial ?_ rfl
  simp only [Try.ntmps16, List.size_toArray, List.length_cons, List.length_nil, Nat.reduceAdd, Nat.reduceSub, Array.replicate_succ, Array.replicate_zero, List.push_toArray, List.append_toArray, List.nil_append, List.cons_append]
  gi_wp2_with (refine ⟨trivial, ?_⟩; gi_at_call 29; refine (waiting_in (n - 1) _ _).mono ?_; rintro e w' ⟨rfl, rfl⟩)
  have bX := Boxed.new (w.alloc (.cells #[.int .u16 s] 28)) 3 (.int .i64 x)
  have bR := Boxed.new ((w.alloc (.cells #[.int .u16 s] 28)).alloc (.cells #[.int .i64 x] 3)) 4 (.bool false)
  have bS := Boxed.new (((w.alloc (.cells #[.int .u16 s] 28)).alloc (.cells #[.int .i64 x] 3)).alloc (.cells #[.bool false] 4)) 28 (.int .u16 s)
  rw [World.size_alloc] at bX
  rw [World.size_alloc, World.size_alloc] at bR
  rw [World.size_alloc, World.size_alloc, World.size_alloc] at bS
  have hB0 : Below w.heap.size w ((((w.alloc (.cells #[.int .u16 s] 28)).alloc (.cells #[.int .i64 x] 3)).alloc (.cells #[.bool false] 4)).alloc (.cells #[.int .u16 s] 28)) := ((((Below.refl _ w).alloc (Nat.le_refl _) _).alloc (by simp) _).alloc (by simp; omega) _).alloc (by simp; omega) _
  refine wpIn_rangeFunc_ownG rfl h1 (gf := 33) (lb := #[.pointer (some ⟨w.heap.size + 1 + 1 + 1, 0, none⟩)]) rfl trivial (enters_of Try.func33 (by kernel_rfl) rfl)
    (waiting_stops (n - 1) (by omega) (w.heap.size + 1 + 1 + 1) w.heap.size s s0 s1 _ (by simp) bS.cell) KB_t (KB_b (by simp; omega)) (Below.refl _ _) (fun _ => rfl)
    (fun pre W => (x ∉ pre ∧ W.cell? ⟨w.heap.size + 1, 0, none⟩ = some (.int .i64 x) ∧ W.cell? ⟨w.heap.size + 1 + 1, 0, none⟩ = some (.bool false) ∧ W.frozen? ⟨w.heap.size + 1 + 1, 0, none⟩ = false) ∧ Below w.heap.size w W)
    (fun c pre W => (c = .ret ∧ x ∈ pre ∧ W.cell? ⟨w.heap.size + 1 + 1, 0, none⟩ = some (.bool true)) ∧ Below w.heap.size w W)
    (OwnFrom.and (Own.from (fun s A B row hs hg hr => ⟨hs.1, cell_kept hs.2.1 hg hr, cell_kept hs.2.2.1 hg hr, (frozen_kept hs.2.2.1 hg hr).trans hs.2.2.2⟩) _) (ownFrom_below (Nat.le_refl _) (by simp; omega)))
    (fun c => OwnFrom.and (Own.from (fun s A B row hs hg hr => ⟨hs.1, hs.2.1, cell_kept hs.2.2 hg hr⟩) _) (ownFrom_below (Nat.le_refl _) (by simp; omega)))
    ⟨⟨by simp, ((bX.alloc _).alloc _).cell, (bR.alloc _).cell, (bR.alloc _).frozen⟩, hB0⟩
    (fun y => { tmps := #[.agg #[.int .u16 s], .int .i64 x, .pointer (some ⟨w.heap.size, 0, none⟩), .pointer (some ⟨w.heap.size + 1, 0, none⟩), .pointer (some ⟨w.heap.size + 1 + 1, 0, none⟩), .int .i64 y, .agg #[.int .u16 s], .func (.func 33) #[] #[.pointer (some ⟨w.heap.size + 1 + 1 + 1, 0, none⟩)], .int .i64 y, undef, undef, undef], defers := [] }) ?assign ?body ?done ?stop
  case assign =>
    intro l y W K hK
    gi_wp2
    exact hK
  case body =>
    rintro l pre y W ⟨⟨hp, hcx, hcr, hfr⟩, hB⟩ _
    by_cases e : y = x
    · subst e
      gi_wp2
      exact ⟨(KeepsOthers.setCell _ _ _).from _, ⟨rfl, by simp, World.cell?_setCell_same' _ _ _ (by rw [hcr]; rfl)⟩, hB.setCell (p := ⟨w.heap.size + 1 + 1, 0, none⟩) (by simp; omega) _⟩
    · have b0 : (y == x) = false := by rw [beq_eq_false_iff_ne]; exact e
      gi_wp2
      exact ⟨KeepsFrom.refl _ _, KB_refl _, ⟨by simp [hp]; exact fun h => e h.symm, hcx, hcr, hfr⟩, hB⟩
  case done =>
    rintro D ys W hD rfl ⟨⟨hne, hcx, hcr, hfr⟩, hB⟩ hK
    gi_wp2
    have hK' := (KeepsOthers.setCell W ⟨w.heap.size + 1 + 1, 0, none⟩ (.bool false)).same D _ hK rfl
    refine ⟨by simp, .inl ⟨_, _, rfl, run_takeDeferred hK', ?_⟩⟩
    have hc5 := cell_kept (World.cell?_setCell_same' W ⟨w.heap.size + 1 + 1, 0, none⟩ (.bool false) (by rw [hcr]; rfl)) (grownBy_putObj' _ D (.deferred none)) (fun r e => by cases e; exact ⟨_, hK', rfl⟩)
    refine ⟨.bool false, ?_, by rw [decide_eq_false hne], (hB.setCell (p := ⟨w.heap.size + 1 + 1, 0, none⟩) (by simp; omega) _).trans (belowK_b (w := w) (Nat.le_refl _) _ D _ _ (by simp at hD; omega) hK' rfl rfl)⟩
    simp [results, Try.f16, go_sem, hc5]
  case stop =>
    rintro D c pre W hD hpre ⟨⟨rfl, hin, hcr⟩, hB⟩ hK
    gi_wp2
    refine ⟨by simp, .inl ⟨_, _, rfl, run_takeDeferred hK, ?_⟩⟩
    have hc5 := cell_kept hcr (grownBy_putObj' _ D (.deferred none)) (fun r e => by cases e; exact ⟨_, hK, rfl⟩)
    refine ⟨.bool true, ?_, by rw [decide_eq_true (hpre.subset hin)], hB.trans (belowK_b (w := w) (Nat.le_refl _) W D _ _ (by simp at hD; omega) hK rfl rfl)⟩
    simp [results, Try.f16, go_sem, hc5]
end Go.Proofs.Ytejnppbkncfkeaa.Rup
