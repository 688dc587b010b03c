/- Chapter 5: a part of its proof (cut by program out of Rup1, Rup2, Rup3); no condition. -/
import Derived.Lib.Hide
import Derived.LoopIn
import Derived.LoopNIn
import Derived.Maps.AppendAt
import Derived.OwnWalkIn
import Derived.RangeFuncBound
import Derived.RangeFuncBox
import Derived.RangeFuncCalls
import Derived.RangeFuncLeaves
import Derived.RangeFuncNested
import Derived.Shelf.Abstract
import Derived.Shelf.RegionOpen
import Derived.TacticsInMore
import Derived.WalkKit
import Derived.Test.YthfobpkdloejfaaGreatIr39
set_option linter.unusedVariables false
set_option linter.unusedSimpArgs false
set_option linter.unusedSectionVars false
set_option maxRecDepth 100000
set_option maxHeartbeats 8000000
section
namespace Go.Proofs.YthfobpkdloejfaaGreat.Rup
open Go.RowKit Go.Shelf Go.Proofs.YthfobpkdloejfaaGreat.PAll Go.Proofs.YthfobpkdloejfaaGreatW.PrintWords Go.Proofs.YthfobpkdloejfaaGreatW.PrintLast Go.Proofs.YthfobpkdloejfaaGreatW.PrintMore Go.Proofs.YthfobpkdloejfaaGreat.Plain
attribute [local go_sem] Oper.semAt_some
def pL (s : Int) (k : Nat) : List Int := (L10.take k).filter (wt s)
theorem L10_len : L10.length = 10 := rfl
theorem L10_at (k : Nat) (h : k < 10) : L10[k]? = some ((k : Int) + 1) := by
 have : ∀ k : Nat, k < 10 → L10[k]? = some ((k : Int) + 1) := by decide
 exact this k h
theorem take_step (k : Nat) (h : k < 10) : L10.take (k + 1) = L10.take k ++ [(k : Int) + 1] := by
 have hk : k < L10.length := by rw [L10_len]; exact h
 have e := L10_at k h
 rw [List.getElem?_eq_getElem hk] at e
 rw [List.take_succ_eq_append_getElem hk, Option.some.inj e]
theorem pL_yes (s : Int) (k : Nat) (h : k < 10) (hw : wt s ((k : Int) + 1) = true) : pL s (k + 1) = pL s k ++ [(k : Int) + 1] := by
 unfold pL; rw [take_step k h, List.filter_append]; simp [hw]
theorem pL_no (s : Int) (k : Nat) (h : k < 10) (hw : wt s ((k : Int) + 1) = false) : pL s (k + 1) = pL s k := by
 unfold pL; rw [take_step k h, List.filter_append]; simp [hw]
theorem pL_len (s : Int) (k : Nat) : (pL s k).length ≤ k := by
 unfold pL; exact Nat.le_trans (List.length_filter_le _ _) (by rw [List.length_take]; omega)
theorem pL_pre (s : Int) (k : Nat) (h : k ≤ 10) : pL s k <+: pL s 10 := by
 unfold pL
 have : L10.take 10 = L10 := rfl
 rw [this]
 exact (List.take_prefix k L10).filter _
def KB (n₀ Bs : Nat) (W W' : World) : Prop := Below n₀ W W' ∧ ∀ v, W.cell? ⟨Bs, 0, none⟩ = some v → W'.cell? ⟨Bs, 0, none⟩ = some v
theorem waiting1_in (n : Nat) (hn : 1 ≤ n) (l Bs n₀ : Nat) (s : Int) (s0 : 0 ≤ s) (s1 : s < 65536)
 (J Jx : List Int → World → Prop)
 (hY : ∀ pre x W, J pre W → pre.length < 10 → YieldAt Fence.wide (n - 1) Tryz.prog l #[.int .i64 x] W fun e W' =>
  (e = .returned (.bool true) ∧ J (pre ++ [x]) W' ∧ KB n₀ Bs W W') ∨ (e = .returned (.bool false) ∧ Jx (pre ++ [x]) W'))
 (W : World) (hBs : W.cell? ⟨Bs, 0, none⟩ = some (.int .u16 s)) (h0 : J [] W) :
 CallsIn Fence.wide n Tryz.prog 180 #[.func (.yield l) #[] #[], .pointer (some ⟨Bs, 0, none⟩)] W fun e W' => (∃ v, e = .returned v) ∧
  ((∃ ys, ys = pL s 10 ∧ J ys W') ∨ (∃ pre, (pre <+: pL s 10) ∧ Jx pre W')) := by
 refine callsIn_of_wp Tryz.func180 rfl trivial ?_ rfl
 simp only [Tryz.ntmps180, List.size_toArray, List.length_cons, List.length_nil, Nat.reduceAdd, Nat.reduceSub, Array.replicate_succ, Array.replicate_zero, List.push_toArray, List.append_toArray, List.nil_append, List.cons_append]
 gi_wp2
 gi_loopw [3] (fun i wr => ∃ (k : Nat) (j : Int), Aside0 (k ≤ 10) ∧ Aside0 (j = (k : Int) + 1) ∧ i = .int .i64 j ∧ J (pL s k) wr ∧ wr.cell? ⟨Bs, 0, none⟩ = some (.int .u16 s))
  (fun i _ => 11 - (intOf i).toNat)
 case atStart => exact ⟨0, 1, ⟨by decide⟩, ⟨rfl⟩, rfl, h0, hBs⟩
 case round =>
  obtain ⟨k, j, hk, hj, rfl, hJs, hc⟩ := hrel
  by_cases hlt : k < 10
  · have b0 : decide (j ≤ 10) = true := decide_eq_true (by have := hj.out; omega)
    have p0 : j ≤ 10 := by have := hj.out; omega
    have q0 : 0 ≤ j := by have := hj.out; omega
    have hW := pWd s0 s1 (i := j) (by have := hj.out; omega) p0
    have u1 : wrap64 (j + 1) = j + 1 := w64 (by omega) (by omega)
    cases hb : wt s j with
    | false =>
     have hb2 := Lib.hid (pL_no s k hlt (by rw [← hj.out]; exact hb))
     rw [hb, if_neg (by decide)] at hW
     clear hb
     gi_wp2
     refine ⟨fun _ h => (by cases h), ?_⟩
     gi_wp2
     go_roundw
     case rel => exact ⟨k + 1, j + 1, ⟨by omega⟩, ⟨by have := hj.out; push_cast; omega⟩, by simp [u1], by rw [hb2.out]; exact hJs, hc⟩
     case measure => simp [intOf, u1]; omega
    | true =>
     have hb2 := Lib.hid (pL_yes s k hlt (by rw [← hj.out]; exact hb))
     rw [hb, if_pos rfl] at hW
     clear hb
     obtain ⟨fn, tmps, assign, body, hy, hR⟩ := hY (pL s k) j wr hJs (by have := pL_len s k; omega)
     gi_wp2
     refine hR.mono ?_
     rintro e W3 (⟨rfl, hJ3, hk3⟩ | ⟨rfl, hJx3⟩)
     · have hc3 := hk3.2 _ hc
       gi_wp2
       go_roundw
       case rel => exact ⟨k + 1, j + 1, ⟨by omega⟩, ⟨by have := hj.out; push_cast; omega⟩, by simp [u1], by rw [hb2.out, ← hj.out]; exact hJ3, hc3⟩
       case measure => simp [intOf, u1]; omega
     · gi_wp2
       refine bodyPost_ret (results_none rfl _ _ _) rfl ?_
       refine ⟨⟨_, rfl⟩, .inr ⟨_, ?_, hJx3⟩⟩
       rw [hj.out, ← hb2.out]
       exact pL_pre s (k + 1) (by omega)
  · have b0 : decide (j ≤ 10) = false := decide_eq_false (by have := hj.out; omega)
    obtain rfl : k = 10 := by have := hk.out; omega
    gi_wp2
    go_end0
    exact ⟨⟨_, rfl⟩, .inl ⟨_, rfl, hJs⟩⟩
theorem waiting_in (n : Nat) (s : Int) (w : World) :
 CallsIn Fence.wide n Tryz.prog 153 #[.agg #[.int .u16 s]] w fun e w' => e = .returned (.func (.func 180) #[] #[.pointer (some ⟨w.heap.size, 0, none⟩)]) ∧ w' = w.alloc (.cells #[.int .u16 s] 78) := by
 refine callsIn_of_wp Tryz.func153 rfl trivial ?_ rfl
 simp only [Tryz.ntmps153, List.size_toArray, List.length_cons, List.length_nil, Nat.reduceAdd, Nat.reduceSub, Array.replicate_succ, Array.replicate_zero, List.push_toArray, List.append_toArray, List.nil_append, List.cons_append]
 gi_wp2
 go_ret
 exact ⟨rfl, rfl⟩
theorem waiting_stops (n : Nat) (hn : 1 ≤ n) (Bs n₀ : Nat) (s : Int) (s0 : 0 ≤ s) (s1 : s < 65536) (w : World) (hBs : Bs < w.heap.size) (hc : w.cell? ⟨Bs, 0, none⟩ = some (.int .u16 s)) :
 SeqStopsK Fence.wide n Tryz.prog 180 #[.pointer (some ⟨Bs, 0, none⟩)] (fun x : Int => #[Value.int .i64 x]) (KB n₀ Bs) (fun ys => ys = pL s 10) (fun pre => pre <+: pL s 10) 10 w := fun l J Jx W hW hJ hJx hY h0 =>
 waiting1_in n hn l Bs n₀ s s0 s1 J Jx hY W ((hW.cell (p := ⟨Bs, 0, none⟩) hBs).trans hc) h0
theorem KB_t {n₀ Bs : Nat} {A B C : World} (h : KB n₀ Bs A B) (k : KB n₀ Bs B C) : KB n₀ Bs A C := ⟨h.1.trans k.1, fun v hv => k.2 v (h.2 v hv)⟩
theorem KB_b {n₀ Bs : Nat} {w : World} (hn : n₀ ≤ w.heap.size) (W : World) (l : Nat) (o o' : Obj) (hl : w.heap.size ≤ l) (hW : W.heap[l]? = some o) (hc : o.isCells = false) (hw : o.isWalk = false) : KB n₀ Bs W (W.putObj l o') := by
 refine ⟨belowK_b hn W l o o' hl hW hc hw, fun v hv => cell_kept hv (grownBy_putObj' W l o') (fun r e => by cases e; exact ⟨o, hW, hc⟩)⟩
end Go.Proofs.YthfobpkdloejfaaGreat.Rup
end
section
namespace Go.Proofs.YthfobpkdloejfaaGreat.Rup
open Go.RowKit Go.Shelf Go.Proofs.YthfobpkdloejfaaGreat.PAll Go.Proofs.YthfobpkdloejfaaGreatW.PrintWords Go.Proofs.YthfobpkdloejfaaGreatW.PrintLast Go.Proofs.YthfobpkdloejfaaGreatW.PrintMore Go.Proofs.YthfobpkdloejfaaGreat.Plain
attribute [local go_sem] Oper.semAt_some
theorem pL_ten (s : Int) : pL s 10 = L10.filter (wt s) := rfl
theorem chI_head (s : Int) : (pL s 10).head? = chI s := by rw [pL_ten, List.head?_filter]; rfl
theorem Allowed_c (a l q z eb fb su : Int) (ext : Bool) (idx : Int) (held : Bool) (b : Int) (inh srv : Bool) (w : World) :
 Calls Tryz.prog 152 #[.agg #[.int .u16 a, .int .u16 l, .int .u16 q, .int .i64 z, .int .i64 eb, .int .i64 fb, .int .i64 su, .bool ext, .int .u16 idx, .bool held, .int .u16 b, .bool inh, .bool srv]] w fun e w' => e = .returned (.bool (alB a idx ext held inh srv)) ∧ Below w.heap.size w w' :=
 interrupt_Allowed.calls 10 a l q z eb fb su ext idx held b inh srv _ w (pAl (by decide))
theorem Boxed.below {W W' : World} {B : Nat} {t : TypeId} {v : Value} {n : Nat} (h : Boxed W B t v) (hb : Below n W W') (hn : B < n) : Boxed W' B t v := (hb.block B hn).trans h
theorem Choose_in (n : Nat) (hn : 3 ≤ n) (s : Int) (a l q z eb fb su : Int) (ext : Bool) (idx : Int) (held : Bool) (b : Int) (inh srv : Bool) (s0 : 0 ≤ s) (s1 : s < 65536) (w : World) :
 CallsIn Fence.wide n Tryz.prog 67 #[.agg #[.int .u16 s], .agg #[.int .u16 a, .int .u16 l, .int .u16 q, .int .i64 z, .int .i64 eb, .int .i64 fb, .int .i64 su, .bool ext, .int .u16 idx, .bool held, .int .u16 b, .bool inh, .bool srv]] w fun e W' => e = .returned (.tuple #[.int .i64 (if alB a idx ext held inh srv = true then chR (chI s) else (0, false)).1, .bool (if alB a idx ext held inh srv = true then chR (chI s) else (0, false)).2]) ∧ Below w.heap.size w W' := by
 have h1 : 1 ≤ n := by omega
 have AC := Lib.hid (fun w => Allowed_c a l q z eb fb su ext idx held b inh srv w)
 refine callsIn_of_wp_marks Tryz.func67 rfl trivial ?_ rfl
 simp only [Tryz.ntmps67, List.size_toArray, List.length_cons, List.length_nil, Nat.reduceAdd, Nat.reduceSub, Array.replicate_succ, Array.replicate_zero, List.push_toArray, List.append_toArray, List.nil_append, List.cons_append]
 have bS := Lib.hid ((((Boxed.new w 78 (.int .u16 s)).alloc (.cells #[.int .u16 a, .int .u16 l, .int .u16 q, .int .i64 z, .int .i64 eb, .int .i64 fb, .int .i64 su, .bool ext, .int .u16 idx, .bool held, .int .u16 b, .bool inh, .bool srv] 26)).alloc (.cells #[.int .i64 0] 3)).alloc (.cells #[.bool false] 4))
 have bI0 := (Boxed.new ((w.alloc (.cells #[.int .u16 s] 78)).alloc (.cells #[.int .u16 a, .int .u16 l, .int .u16 q, .int .i64 z, .int .i64 eb, .int .i64 fb, .int .i64 su, .bool ext, .int .u16 idx, .bool held, .int .u16 b, .bool inh, .bool srv] 26)) 3 (.int .i64 0)).alloc (.cells #[.bool false] 4)
 rw [World.size_alloc, World.size_alloc] at bI0
 have bI := Lib.hid bI0
 have bO0 := Boxed.new (((w.alloc (.cells #[.int .u16 s] 78)).alloc (.cells #[.int .u16 a, .int .u16 l, .int .u16 q, .int .i64 z, .int .i64 eb, .int .i64 fb, .int .i64 su, .bool ext, .int .u16 idx, .bool held, .int .u16 b, .bool inh, .bool srv] 26)).alloc (.cells #[.int .i64 0] 3)) 4 (.bool false)
 rw [World.size_alloc, World.size_alloc, World.size_alloc] at bO0
 have bO := Lib.hid bO0
 have hB0 := Aside0.mk (show Below w.heap.size w ((((w.alloc (.cells #[.int .u16 s] 78)).alloc (.cells #[.int .u16 a, .int .u16 l, .int .u16 q, .int .i64 z, .int .i64 eb, .int .i64 fb, .int .i64 su, .bool ext, .int .u16 idx, .bool held, .int .u16 b, .bool inh, .bool srv] 26)).alloc (.cells #[.int .i64 0] 3)).alloc (.cells #[.bool false] 4)) from ((((Below.refl _ w).alloc (Nat.le_refl _) _).alloc (by simp) _).alloc (by simp <;> omega) _).alloc (by simp <;> omega) _)
 clear bI0 bO0
 cases hal : alB a idx ext held inh srv with
 | false =>
  rw [hal] at AC
  gi_wp2_with (refine ⟨trivial, ?_⟩; gi_at_call 152; refine (callsIn_wide.2 (AC.out _)).mono ?_; rintro e wa ⟨rfl, hb⟩; have cI := Boxed.below bI.out hb (by simp <;> omega); have cO := Boxed.below bO.out hb (by simp); have hBa := Aside0.mk (hB0.out.trans (hb.mono (by simp <;> omega))); clear hb; have cI0 := cI.cell; have cI1 := cI.frozen; have cO0 := cO.cell; have cO1 := cO.frozen; replace cI := Lib.hid cI; replace cO := Lib.hid cO)
  refine ⟨.tuple #[.int .i64 0, .bool false], ?_, rfl, (hBa.out.setCell (p := ⟨w.heap.size + 1 + 1, 0, none⟩) (by simp <;> omega) _).setCell (p := ⟨w.heap.size + 1 + 1 + 1, 0, none⟩) (by simp <;> omega) _⟩
  have d0 := (World.cell?_setCell_far (wa.setCell ⟨w.heap.size + 1 + 1, 0, none⟩ (.int .i64 0)) ⟨w.heap.size + 1 + 1 + 1, 0, none⟩ ⟨w.heap.size + 1 + 1, 0, none⟩ (.bool false) (by simp)).trans (World.cell?_setCell_same' wa ⟨w.heap.size + 1 + 1, 0, none⟩ (.int .i64 0) (by rw [cI0]; rfl))
  have d1 := World.cell?_setCell_same' (wa.setCell ⟨w.heap.size + 1 + 1, 0, none⟩ (.int .i64 0)) ⟨w.heap.size + 1 + 1 + 1, 0, none⟩ (.bool false) (by rw [World.cell?_setCell_far wa ⟨w.heap.size + 1 + 1, 0, none⟩ ⟨w.heap.size + 1 + 1 + 1, 0, none⟩ _ (by simp), cO0]; rfl)
  simp [results, Tryz.f67, go_sem, d0, d1]
 | true =>
  rw [hal] at AC
  gi_wp2_with (first | (refine ⟨trivial, ?_⟩; gi_at_call 152; refine (callsIn_wide.2 (AC.out _)).mono ?_; rintro e wa ⟨rfl, hb⟩; have cS := Boxed.below bS.out hb (by simp <;> omega); have cI := Boxed.below bI.out hb (by simp <;> omega); have cO := Boxed.below bO.out hb (by simp); have hBa := Aside0.mk (hB0.out.trans (hb.mono (by simp <;> omega))); have hsz := Aside0.mk (show w.heap.size + 1 + 1 + 1 + 1 ≤ wa.heap.size by have := hb.size; simp at this; omega); clear hb; have cS0 := cS.cell; replace cS := Lib.hid cS; replace cI := Lib.hid cI; replace cO := Lib.hid cO) | (refine ⟨trivial, ?_⟩; gi_at_call 153; refine (waiting_in (n - 1) _ _).mono ?_; rintro e w' ⟨rfl, rfl⟩))
  have hszo := hsz.out
  have bN := Boxed.new wa 78 (.int .u16 s)
  refine wpIn_rangeFunc_ownG rfl h1 (gf := 180) (lb := #[.pointer (some ⟨wa.heap.size, 0, none⟩)]) rfl trivial (enters_of Tryz.func180 (by kernel_rfl) rfl)
   (waiting_stops (n - 1) (by omega) wa.heap.size w.heap.size s s0 s1 _ (by simp) bN.cell) KB_t (KB_b (by simp <;> omega)) (Below.refl _ _) (fun _ => rfl)
   (fun pre W => (pre = [] ∧ W.cell? ⟨w.heap.size + 1 + 1, 0, none⟩ = some (.int .i64 0) ∧ W.frozen? ⟨w.heap.size + 1 + 1, 0, none⟩ = false ∧ W.cell? ⟨w.heap.size + 1 + 1 + 1, 0, none⟩ = some (.bool false) ∧ W.frozen? ⟨w.heap.size + 1 + 1 + 1, 0, none⟩ = false) ∧ Below w.heap.size w W)
   (fun c pre W => (c = .ret ∧ ∃ y, pre = [y] ∧ W.cell? ⟨w.heap.size + 1 + 1, 0, none⟩ = some (.int .i64 y) ∧ W.cell? ⟨w.heap.size + 1 + 1 + 1, 0, none⟩ = some (.bool true)) ∧ Below w.heap.size w W)
   (OwnFrom.and (Own.from (fun s A B row hs hg hr => ⟨hs.1, cell_kept hs.2.1 hg hr, (frozen_kept hs.2.1 hg hr).trans hs.2.2.1, cell_kept hs.2.2.2.1 hg hr, (frozen_kept hs.2.2.2.1 hg hr).trans hs.2.2.2.2⟩) _) (ownFrom_below (Nat.le_refl _) (by simp <;> omega)))
   (fun c => OwnFrom.and (Own.from (fun s A B row hs hg hr => by obtain ⟨h1, y, h2, h3, h4⟩ := hs; exact ⟨h1, y, h2, cell_kept h3 hg hr, cell_kept h4 hg hr⟩) _) (ownFrom_below (Nat.le_refl _) (by simp <;> omega)))
   ⟨⟨rfl, (cI.out.alloc _).cell, (cI.out.alloc _).frozen, (cO.out.alloc _).cell, (cO.out.alloc _).frozen⟩, hBa.out.alloc (by omega) _⟩
   (fun y => { tmps := #[.agg #[.int .u16 s], .agg #[.int .u16 a, .int .u16 l, .int .u16 q, .int .i64 z, .int .i64 eb, .int .i64 fb, .int .i64 su, .bool ext, .int .u16 idx, .bool held, .int .u16 b, .bool inh, .bool srv], .pointer (some ⟨w.heap.size, 0, none⟩), .pointer (some ⟨w.heap.size + 1, 0, none⟩), .pointer (some ⟨w.heap.size + 1 + 1, 0, none⟩), .pointer (some ⟨w.heap.size + 1 + 1 + 1, 0, none⟩), .int .i64 y, .agg #[.int .u16 a, .int .u16 l, .int .u16 q, .int .i64 z, .int .i64 eb, .int .i64 fb, .int .i64 su, .bool ext, .int .u16 idx, .bool held, .int .u16 b, .bool inh, .bool srv], .bool true, .agg #[.int .u16 s], .func (.func 180) #[] #[.pointer (some ⟨wa.heap.size, 0, none⟩)], .int .i64 y, undef], defers := [] }) ?assign ?body ?done ?stop
  case assign =>
   intro l y W K hK
   gi_wp2
   exact hK
  case body =>
   rintro l pre y W ⟨⟨rfl, hc0, hf0, hc1, hf1⟩, hB⟩ _
   gi_wp2
   refine ⟨((KeepsOthers.setCell _ _ _).trans (KeepsOthers.setCell _ _ _)).from _, ⟨rfl, y, rfl, ?_, ?_⟩, (hB.setCell (p := ⟨w.heap.size + 1 + 1, 0, none⟩) (by simp <;> omega) _).setCell (p := ⟨w.heap.size + 1 + 1 + 1, 0, none⟩) (by simp <;> omega) _⟩
   · exact (World.cell?_setCell_far _ ⟨w.heap.size + 1 + 1 + 1, 0, none⟩ ⟨w.heap.size + 1 + 1, 0, none⟩ (.bool true) (by simp)).trans (World.cell?_setCell_same' _ _ _ (by rw [hc0]; rfl))
   · exact World.cell?_setCell_same' _ ⟨w.heap.size + 1 + 1 + 1, 0, none⟩ (.bool true) (by rw [World.cell?_setCell_far _ ⟨w.heap.size + 1 + 1, 0, none⟩ ⟨w.heap.size + 1 + 1 + 1, 0, none⟩ _ (by simp), hc1]; rfl)
  case done =>
   rintro D ys W hD hys ⟨⟨hnil, hc0, hf0, hc1, hf1⟩, hB⟩ hK
   have hch := Lib.hid (show chI s = none by rw [← chI_head, ← hys, hnil]; rfl)
   gi_wp2
   have hK1 := (KeepsOthers.setCell W ⟨w.heap.size + 1 + 1, 0, none⟩ (.int .i64 0)).same D _ hK rfl
   have hK' := (KeepsOthers.setCell (W.setCell ⟨w.heap.size + 1 + 1, 0, none⟩ (.int .i64 0)) ⟨w.heap.size + 1 + 1 + 1, 0, none⟩ (.bool false)).same D _ hK1 rfl
   have d0 := (World.cell?_setCell_far (W.setCell ⟨w.heap.size + 1 + 1, 0, none⟩ (.int .i64 0)) ⟨w.heap.size + 1 + 1 + 1, 0, none⟩ ⟨w.heap.size + 1 + 1, 0, none⟩ (.bool false) (by simp)).trans (World.cell?_setCell_same' W ⟨w.heap.size + 1 + 1, 0, none⟩ (.int .i64 0) (by rw [hc0]; rfl))
   have d1 := World.cell?_setCell_same' (W.setCell ⟨w.heap.size + 1 + 1, 0, none⟩ (.int .i64 0)) ⟨w.heap.size + 1 + 1 + 1, 0, none⟩ (.bool false) (by rw [World.cell?_setCell_far W ⟨w.heap.size + 1 + 1, 0, none⟩ ⟨w.heap.size + 1 + 1 + 1, 0, none⟩ _ (by simp), hc1]; rfl)
   refine ⟨by simp, .inl ⟨_, _, rfl, run_takeDeferred hK', ?_⟩⟩
   have e0 := cell_kept d0 (grownBy_putObj' _ D (.deferred none)) (fun r e => by cases e; exact ⟨_, hK', rfl⟩)
   have e1 := cell_kept d1 (grownBy_putObj' _ D (.deferred none)) (fun r e => by cases e; exact ⟨_, hK', rfl⟩)
   refine ⟨.tuple #[.int .i64 0, .bool false], ?_, by rw [hch.out]; rfl, ((hB.setCell (p := ⟨w.heap.size + 1 + 1, 0, none⟩) (by simp <;> omega) _).setCell (p := ⟨w.heap.size + 1 + 1 + 1, 0, none⟩) (by simp <;> omega) _).trans (belowK_b (w := w) (Nat.le_refl _) _ D _ _ (by simp at hD; omega) hK' rfl rfl)⟩
   simp [results, Tryz.f67, go_sem, e0, e1]
  case stop =>
   rintro D c pre W hD hpre ⟨⟨rfl, y, rfl, hc0, hc1⟩, hB⟩ hK
   have hch := Lib.hid (show chI s = some y by rw [← chI_head]; obtain ⟨r, hr⟩ := hpre; rw [← hr]; rfl)
   gi_wp2
   refine ⟨by simp, .inl ⟨_, _, rfl, run_takeDeferred hK, ?_⟩⟩
   have e0 := cell_kept hc0 (grownBy_putObj' _ D (.deferred none)) (fun r e => by cases e; exact ⟨_, hK, rfl⟩)
   have e1 := cell_kept hc1 (grownBy_putObj' _ D (.deferred none)) (fun r e => by cases e; exact ⟨_, hK, rfl⟩)
   refine ⟨.tuple #[.int .i64 y, .bool true], ?_, by rw [hch.out]; rfl, hB.trans (belowK_b (w := w) (Nat.le_refl _) W D _ _ (by simp at hD; omega) hK rfl rfl)⟩
   simp [results, Tryz.f67, go_sem, e0, e1]
theorem Choose_c (s : Int) (a l q z eb fb su : Int) (ext : Bool) (idx : Int) (held : Bool) (b : Int) (inh srv : Bool) (s0 : 0 ≤ s) (s1 : s < 65536) (w : World) :
 Calls Tryz.prog 67 #[.agg #[.int .u16 s], .agg #[.int .u16 a, .int .u16 l, .int .u16 q, .int .i64 z, .int .i64 eb, .int .i64 fb, .int .i64 su, .bool ext, .int .u16 idx, .bool held, .int .u16 b, .bool inh, .bool srv]] w fun e w' => e = .returned (.tuple #[.int .i64 (if alB a idx ext held inh srv = true then chR (chI s) else (0, false)).1, .bool (if alB a idx ext held inh srv = true then chR (chI s) else (0, false)).2]) ∧ Below w.heap.size w w' :=
 callsIn_wide.1 (Choose_in 3 (by decide) s a l q z eb fb su ext idx held b inh srv s0 s1 w)
end Go.Proofs.YthfobpkdloejfaaGreat.Rup
end
section
namespace Go.Proofs.YthfobpkdloejfaaGreat.Rup
open Go.RowKit Go.Proofs.YthfobpkdloejfaaGreat.PAll Go.Proofs.YthfobpkdloejfaaGreatW.PrintWords Go.Proofs.YthfobpkdloejfaaGreatW.PrintLast Go.Proofs.YthfobpkdloejfaaGreatW.PrintMore Go.Proofs.YthfobpkdloejfaaGreat.Plain
theorem May_c (a l q z eb fb su : Int) (ext : Bool) (idx : Int) (held : Bool) (b : Int) (inh srv : Bool) (w : World) : Calls Tryz.prog 13 #[.agg #[.int .u16 a, .int .u16 l, .int .u16 q, .int .i64 z, .int .i64 eb, .int .i64 fb, .int .i64 su, .bool ext, .int .u16 idx, .bool held, .int .u16 b, .bool inh, .bool srv]] w fun e w' => e = .returned (.bool (mayB l q z eb fb su idx b)) ∧ Below w.heap.size w w' := by
 go_enter Tryz.func13, Tryz.ntmps13
 go_wp2
 go_loopg [16] 4 (fun g v16 w' => ∃ i : Int, v16 = .int .i64 i ∧ Aside0 (0 ≤ i ∧ i + g = 4) ∧ Aside0 ((0 < i → l ≤ 32767) ∧ (1 < i → q ≤ 32767) ∧ (2 < i → idx ≤ 32767) ∧ (3 < i → b ≤ 32767)) ∧ w' = w.alloc (.cells #[.int .u16 a, .int .u16 l, .int .u16 q, .int .i64 z, .int .i64 eb, .int .i64 fb, .int .i64 su, .bool ext, .int .u16 idx, .bool held, .int .u16 b, .bool inh, .bool srv] 26))
 case atStart => exact ⟨0, rfl, ⟨by decide, by decide⟩, ⟨by omega⟩, rfl⟩
 case round =>
  obtain ⟨i, rfl, hg, ho, rfl⟩ := hrel
  match gk, hg with
  | 0, hg =>
   obtain rfl : i = 4 := by have := hg.out; omega
   have hW := Aside0.mk (show l ≤ 32767 ∧ q ≤ 32767 ∧ idx ≤ 32767 ∧ b ≤ 32767 by have := ho.out; omega)
   clear hg ho
   go_wp2
   go_loopg [35] 4 (fun g v35 w' => ∃ i : Int, v35 = .int .i64 i ∧ Aside0 (0 ≤ i ∧ i + g = 4) ∧ Aside0 ((0 < i → 0 ≤ z ∧ z ≤ 4095) ∧ (1 < i → 0 ≤ eb ∧ eb ≤ 7) ∧ (2 < i → 0 ≤ fb ∧ fb ≤ 31) ∧ (3 < i → 0 ≤ su ∧ su ≤ 7)) ∧ Aside0 (Below w.heap.size w w'))
   case atStart => exact ⟨0, rfl, ⟨by decide, by decide⟩, ⟨by omega⟩, ⟨(Below.refl _ w).alloc (Nat.le_refl _) _⟩⟩
   case round =>
    obtain ⟨i, rfl, hg, ho, HB⟩ := hrel
    match gk, hg with
    | 0, hg =>
     obtain rfl : i = 4 := by have := hg.out; omega
     have hT := Lib.hid (show mayB l q z eb fb su idx b = true by have := ho.out; have := hW.out; unfold mayB; exact decide_eq_true (by omega))
     clear hg ho
     go_wp2
     go_ret
     exact ⟨by rw [hT.out]; rfl, HB.out⟩
    | 1, hg =>
     obtain rfl : i = 3 := by have := hg.out; omega
     have hi : ∀ W : World, (Instr.index 84 (.agg #[.int .i64 z, .int .i64 4095, .int .i64 eb, .int .i64 7, .int .i64 fb, .int .i64 31, .int .i64 su, .int .i64 7]) (.int .i64 3)).run Tryz.prog W = .ok (.agg #[.int .i64 su, .int .i64 7]) W := fun _ => by kernel_rfl
     have h1 := HB.out.size
     clear hg
     by_cases hx : su < 0
     · have b1 : decide (su < 0) = true := decide_eq_true hx
       have hF := Lib.hid (show mayB l q z eb fb su idx b = false by unfold mayB; exact decide_eq_false (by omega))
       go_wp2
       go_ret
       exact ⟨by rw [hF.out]; rfl, HB.out.alloc h1 _⟩
     · have b1 : decide (su < 0) = false := decide_eq_false hx
       by_cases hy : 7 < su
       · have b2 : decide (7 < su) = true := decide_eq_true hy
         have hF := Lib.hid (show mayB l q z eb fb su idx b = false by unfold mayB; exact decide_eq_false (by omega))
         go_wp2
         go_ret
         exact ⟨by rw [hF.out]; rfl, HB.out.alloc h1 _⟩
       · have b2 : decide (7 < su) = false := decide_eq_false hy
         go_wp2
         go_roundg 0
         case measure => omega
         case rel => exact ⟨4, rfl, ⟨by decide, by decide⟩, ⟨by have := ho.out; omega⟩, ⟨HB.out.alloc h1 _⟩⟩
    | 2, hg =>
     obtain rfl : i = 2 := by have := hg.out; omega
     have hi : ∀ W : World, (Instr.index 84 (.agg #[.int .i64 z, .int .i64 4095, .int .i64 eb, .int .i64 7, .int .i64 fb, .int .i64 31, .int .i64 su, .int .i64 7]) (.int .i64 2)).run Tryz.prog W = .ok (.agg #[.int .i64 fb, .int .i64 31]) W := fun _ => by kernel_rfl
     have h1 := HB.out.size
     clear hg
     by_cases hx : fb < 0
     · have b1 : decide (fb < 0) = true := decide_eq_true hx
       have hF := Lib.hid (show mayB l q z eb fb su idx b = false by unfold mayB; exact decide_eq_false (by omega))
       go_wp2
       go_ret
       exact ⟨by rw [hF.out]; rfl, HB.out.alloc h1 _⟩
     · have b1 : decide (fb < 0) = false := decide_eq_false hx
       by_cases hy : 31 < fb
       · have b2 : decide (31 < fb) = true := decide_eq_true hy
         have hF := Lib.hid (show mayB l q z eb fb su idx b = false by unfold mayB; exact decide_eq_false (by omega))
         go_wp2
         go_ret
         exact ⟨by rw [hF.out]; rfl, HB.out.alloc h1 _⟩
       · have b2 : decide (31 < fb) = false := decide_eq_false hy
         go_wp2
         go_roundg 1
         case measure => omega
         case rel => exact ⟨3, rfl, ⟨by decide, by decide⟩, ⟨by have := ho.out; omega⟩, ⟨HB.out.alloc h1 _⟩⟩
    | 3, hg =>
     obtain rfl : i = 1 := by have := hg.out; omega
     have hi : ∀ W : World, (Instr.index 84 (.agg #[.int .i64 z, .int .i64 4095, .int .i64 eb, .int .i64 7, .int .i64 fb, .int .i64 31, .int .i64 su, .int .i64 7]) (.int .i64 1)).run Tryz.prog W = .ok (.agg #[.int .i64 eb, .int .i64 7]) W := fun _ => by kernel_rfl
     have h1 := HB.out.size
     clear hg
     by_cases hx : eb < 0
     · have b1 : decide (eb < 0) = true := decide_eq_true hx
       have hF := Lib.hid (show mayB l q z eb fb su idx b = false by unfold mayB; exact decide_eq_false (by omega))
       go_wp2
       go_ret
       exact ⟨by rw [hF.out]; rfl, HB.out.alloc h1 _⟩
     · have b1 : decide (eb < 0) = false := decide_eq_false hx
       by_cases hy : 7 < eb
       · have b2 : decide (7 < eb) = true := decide_eq_true hy
         have hF := Lib.hid (show mayB l q z eb fb su idx b = false by unfold mayB; exact decide_eq_false (by omega))
         go_wp2
         go_ret
         exact ⟨by rw [hF.out]; rfl, HB.out.alloc h1 _⟩
       · have b2 : decide (7 < eb) = false := decide_eq_false hy
         go_wp2
         go_roundg 2
         case measure => omega
         case rel => exact ⟨2, rfl, ⟨by decide, by decide⟩, ⟨by have := ho.out; omega⟩, ⟨HB.out.alloc h1 _⟩⟩
    | 4, hg =>
     obtain rfl : i = 0 := by have := hg.out; omega
     have hi : ∀ W : World, (Instr.index 84 (.agg #[.int .i64 z, .int .i64 4095, .int .i64 eb, .int .i64 7, .int .i64 fb, .int .i64 31, .int .i64 su, .int .i64 7]) (.int .i64 0)).run Tryz.prog W = .ok (.agg #[.int .i64 z, .int .i64 4095]) W := fun _ => by kernel_rfl
     have h1 := HB.out.size
     clear hg
     by_cases hx : z < 0
     · have b1 : decide (z < 0) = true := decide_eq_true hx
       have hF := Lib.hid (show mayB l q z eb fb su idx b = false by unfold mayB; exact decide_eq_false (by omega))
       go_wp2
       go_ret
       exact ⟨by rw [hF.out]; rfl, HB.out.alloc h1 _⟩
     · have b1 : decide (z < 0) = false := decide_eq_false hx
       by_cases hy : 4095 < z
       · have b2 : decide (4095 < z) = true := decide_eq_true hy
         have hF := Lib.hid (show mayB l q z eb fb su idx b = false by unfold mayB; exact decide_eq_false (by omega))
         go_wp2
         go_ret
         exact ⟨by rw [hF.out]; rfl, HB.out.alloc h1 _⟩
       · have b2 : decide (4095 < z) = false := decide_eq_false hy
         go_wp2
         go_roundg 3
         case measure => omega
         case rel => exact ⟨1, rfl, ⟨by decide, by decide⟩, ⟨by have := ho.out; omega⟩, ⟨HB.out.alloc h1 _⟩⟩
    | n + 5, hg => exact absurd hg.out (by omega)
  | 1, hg =>
   obtain rfl : i = 3 := by have := hg.out; omega
   have hi : ∀ W : World, (Instr.index 69 (.agg #[.int .u16 l, .int .u16 q, .int .u16 idx, .int .u16 b]) (.int .i64 3)).run Tryz.prog W = .ok (.int .u16 b) W := fun _ => by kernel_rfl
   clear hg
   by_cases hx : 32767 < b
   · have b1 : decide (32767 < b) = true := decide_eq_true hx
     have hF := Lib.hid (show mayB l q z eb fb su idx b = false by unfold mayB; exact decide_eq_false (by omega))
     go_wp2
     go_ret
     exact ⟨by rw [hF.out]; rfl, (Below.refl _ w).alloc (Nat.le_refl _) _⟩
   · have b1 : decide (32767 < b) = false := decide_eq_false hx
     go_wp2
     go_roundg 0
     case measure => omega
     case rel => exact ⟨4, rfl, ⟨by decide, by decide⟩, ⟨by have := ho.out; omega⟩, rfl⟩
  | 2, hg =>
   obtain rfl : i = 2 := by have := hg.out; omega
   have hi : ∀ W : World, (Instr.index 69 (.agg #[.int .u16 l, .int .u16 q, .int .u16 idx, .int .u16 b]) (.int .i64 2)).run Tryz.prog W = .ok (.int .u16 idx) W := fun _ => by kernel_rfl
   clear hg
   by_cases hx : 32767 < idx
   · have b1 : decide (32767 < idx) = true := decide_eq_true hx
     have hF := Lib.hid (show mayB l q z eb fb su idx b = false by unfold mayB; exact decide_eq_false (by omega))
     go_wp2
     go_ret
     exact ⟨by rw [hF.out]; rfl, (Below.refl _ w).alloc (Nat.le_refl _) _⟩
   · have b1 : decide (32767 < idx) = false := decide_eq_false hx
     go_wp2
     go_roundg 1
     case measure => omega
     case rel => exact ⟨3, rfl, ⟨by decide, by decide⟩, ⟨by have := ho.out; omega⟩, rfl⟩
  | 3, hg =>
   obtain rfl : i = 1 := by have := hg.out; omega
   have hi : ∀ W : World, (Instr.index 69 (.agg #[.int .u16 l, .int .u16 q, .int .u16 idx, .int .u16 b]) (.int .i64 1)).run Tryz.prog W = .ok (.int .u16 q) W := fun _ => by kernel_rfl
   clear hg
   by_cases hx : 32767 < q
   · have b1 : decide (32767 < q) = true := decide_eq_true hx
     have hF := Lib.hid (show mayB l q z eb fb su idx b = false by unfold mayB; exact decide_eq_false (by omega))
     go_wp2
     go_ret
     exact ⟨by rw [hF.out]; rfl, (Below.refl _ w).alloc (Nat.le_refl _) _⟩
   · have b1 : decide (32767 < q) = false := decide_eq_false hx
     go_wp2
     go_roundg 2
     case measure => omega
     case rel => exact ⟨2, rfl, ⟨by decide, by decide⟩, ⟨by have := ho.out; omega⟩, rfl⟩
  | 4, hg =>
   obtain rfl : i = 0 := by have := hg.out; omega
   have hi : ∀ W : World, (Instr.index 69 (.agg #[.int .u16 l, .int .u16 q, .int .u16 idx, .int .u16 b]) (.int .i64 0)).run Tryz.prog W = .ok (.int .u16 l) W := fun _ => by kernel_rfl
   clear hg
   by_cases hx : 32767 < l
   · have b1 : decide (32767 < l) = true := decide_eq_true hx
     have hF := Lib.hid (show mayB l q z eb fb su idx b = false by unfold mayB; exact decide_eq_false (by omega))
     go_wp2
     go_ret
     exact ⟨by rw [hF.out]; rfl, (Below.refl _ w).alloc (Nat.le_refl _) _⟩
   · have b1 : decide (32767 < l) = false := decide_eq_false hx
     go_wp2
     go_roundg 3
     case measure => omega
     case rel => exact ⟨1, rfl, ⟨by decide, by decide⟩, ⟨by have := ho.out; omega⟩, rfl⟩
  | n + 5, hg => exact absurd hg.out (by omega)
end Go.Proofs.YthfobpkdloejfaaGreat.Rup
end
