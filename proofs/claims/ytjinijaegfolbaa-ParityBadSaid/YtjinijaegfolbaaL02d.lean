/- The contracts of parity.All and parity.Bad over every list within the reach; no other condition. -/
import Derived.RangeFuncNested
import Derived.RangeFuncBound
import Derived.RangeFuncCalls
import Derived.RangeFuncLeaves
import Derived.RangeFuncBox
import Derived.Shelf.Abstract
import Derived.Shelf.RegionOpen
import Derived.WalkKit
import Derived.OwnWalkIn
import Derived.TacticsInMore
import Derived.LoopNIn
import Derived.LoopIn
import Derived.Maps.AppendAt
import Derived.Test.YtjinijaegfolbaaL02a
import Derived.Lib.Hide
namespace Go.Proofs.Ytjinijaegfolbaa.L02
open Go.RowKit Go.Shelf Go.Proofs.Ytjinijaegfolbaa.PAll Go.Proofs.YtjinijaegfolbaaW.PrintWords Go.Proofs.YtjinijaegfolbaaW.PrintLast Go.Proofs.YtjinijaegfolbaaW.PrintMore Go.Proofs.Ytjinijaegfolbaa.Plain
set_option linter.unusedVariables false
set_option linter.unusedSimpArgs false
theorem take_next (l : List Int) (i : Int) (h0 : 0 ≤ i) (h : i < (l.length : Int)) : l.take (i + 1).toNat = l.take i.toNat ++ [rd l i] := by
  obtain ⟨k, rfl⟩ := Int.eq_ofNat_of_zero_le h0
  have hk : k < l.length := by omega
  rw [show ((k : Int) + 1).toNat = k + 1 by omega, Int.toNat_natCast, List.take_succ_eq_append_getElem hk]
  unfold rd
  rw [Int.toNat_natCast, List.getD_eq_getElem?_getD, List.getElem?_eq_getElem hk]; rfl
theorem rd_range (l : List Int) (hb : ∀ x ∈ l, (Lit.int .u16 x).wf = true) (i : Int) (h0 : 0 ≤ i) (h : i < (l.length : Int)) : 0 ≤ rd l i ∧ rd l i < 65536 := by
  have hk : i.toNat < l.length := by omega
  obtain ⟨n, hn, hn2⟩ := wf16 (hb _ (List.getElem_mem hk))
  have : rd l i = n := by unfold rd; rw [List.getD_eq_getElem?_getD, List.getElem?_eq_getElem hk, ← hn]; rfl
  omega
set_option maxHeartbeats 1000000 in
theorem All_c (A : Option Addr) (c : Nat) (l : List Int) (w : World) (hr : Kd.C (Kd.int .u16) w A l.length l) (hc : l.length ≤ c) (hl : l.length * 2 ≤ 140737488351232) (hb : ∀ x ∈ l, (Lit.int .u16 x).wf = true) :
    Calls Try.prog 19 #[.slice A l.length c] w fun e w' => ∃ v, e = .returned v ∧ Kd.R (Kd.int .u16) 24 w' w.heap.size (fun _ => True) v (l.map putI) ∧ Below w.heap.size w w' := by
  have HR := Aside0.mk hr
  clear hr
  have HB := Aside0.mk (Below.refl w.heap.size w)
  obtain ⟨i0, hi, hz0, hz1, hz2⟩ := info_parts info24
  go_enter Try.func19, Try.ntmps19
  go_wp2_with (at_make; refine wpList_make_own _ rfl _ _ 40 rfl w.heap.size 24 i0 (.int .u16 0) 1 Try.underlying40 hi hz0 hz1 .i64 .i64 (l.length : Int) l.length rfl rfl rfl (by rw [hz2]; omega) (by unfold maxLen; omega) (by simp) ?_; intro w1 hown hg; have HO := Aside0.mk (Kd.R_of_own (enc := Value.int .u16) (h1 := fun _ => rfl) (ok := fun _ => True) (xs := []) hown (fun _ _ => trivial)); have HB1 := Aside0.mk (pw_below_grown HB.out none (by simp) hg (fun k hk => by cases hk)); clear HB hown hg; have HB := HB1; clear HB1)
  clear hi hz0 hz1 hz2
  go_loopg [3, 11] l.length (fun g v3 v11 w' => ∃ i : Int, v11 = .int .i64 i ∧ 0 ≤ i ∧ Aside0 (i + g = l.length) ∧ Aside0 (Kd.R (Kd.int .u16) 24 w' w.heap.size (fun _ => True) v3 ((l.take i.toNat).map putI)) ∧ Aside0 (Below w.heap.size w w'))
  case atStart => exact ⟨0, rfl, by decide, ⟨by omega⟩, HO, HB⟩
  case round =>
    clear HO HB
    obtain ⟨i, rfl, h0, hg, HO, HB⟩ := hrel
    have hg' := hg.out
    by_cases hlt : i < (l.length : Int)
    · obtain ⟨g, rfl⟩ : ∃ g, gk = g + 1 := ⟨gk - 1, by omega⟩
      clear hg'
      have b0 : decide (i < (l.length : Int)) = true := decide_eq_true hlt
      obtain ⟨ad, eA, hx⟩ := Kd.at_int HR.out i h0 hlt
      cases eA
      replace hx := (HB.out.cell (World.block_lt_of_cell? w _ hx)).trans hx
      have hrd := rd_range l hb i h0 hlt
      have P1 := Lib.hid (Put_c (rd l i) hrd.1 hrd.2)
      have LT := Lib.hid (take_next l i h0 hlt)
      have LM : Aside0 (((l.take i.toNat).map putI).length < 70368744177664) := ⟨by rw [List.length_map, List.length_take]; omega⟩
      clear hrd
      go_wp2_with (first | (go_at_call 15; (with_reducible refine (P1.out _).mono ?_); rintro e w' ⟨rfl, ⟨nd, rfl⟩⟩) | ((with_reducible refine gate_builtin (b := .append) (xs := #[.tmp 15, .tmp 18]) rfl ?_); at_builtin; refine Kd.R_append (Kd.int .u16) (w0 := w) w.heap.size rfl (.tmp 15) (.tmp 18) 40 24 (.int .u16 0) 2 rfl Try.underlying40 info24 rfl (by decide) (by omega) u3 ((l.take i.toNat).map putI) (putI (rd l i)) [.int .u16 (putI (rd l i))] (fun _ => True) (fun _ => False) rfl rfl ?aP (fun _ hk => hk.elim) ?aF ?aO ?aB ?aS ?aL ?_; (case aP => exact rfl); (case aB => exact (by repeat (first | (with_reducible first | exact HB.out | apply below_alloc | apply pw_below_drewN | apply below_drew1) | exact HB.out))); (case aF => exact (fun _ _ => trivial)); (case aO => exact (by (with_reducible repeat (first | apply Kd.R_alloc | apply Kd.R_drewN | apply Kd.R_drew)); exact HO.out)); (case aS => exact (below_size (by repeat (first | (with_reducible first | exact HB.out | apply below_alloc | apply pw_below_drewN | apply below_drew1) | exact HB.out)))); (case aL => have := LM.out; omega); intro v123 w6 ho hb hg hat; have n0_ := Aside0.mk (hb); have n1_ := Aside0.mk (ho); clear HB; clear HO; have HB := n0_; have HO := n1_; clear n0_ n1_; clear ho hb hg hat))
      go_roundg g
      case measure => omega
      case rel => exact ⟨i + 1, rfl, by omega, ⟨by have := hg.out; omega⟩, ⟨by rw [LT.out, List.map_append]; (with_reducible repeat (first | apply Kd.R_alloc | apply Kd.R_drewN | apply Kd.R_drew)); exact HO.out⟩, ⟨by repeat (first | (with_reducible first | exact HB.out | apply below_alloc | apply pw_below_drewN | apply below_drew1) | exact HB.out)⟩⟩
    · have b0 : decide (i < (l.length : Int)) = false := decide_eq_false hlt
      have LA := Lib.hid (show (l.take i.toNat) = l from List.take_of_length_le (by omega))
      clear hg'
      go_wp2
      go_ret
      exact ⟨_, rfl, by have h := HO.out; rw [LA.out] at h; (with_reducible repeat (first | apply Kd.R_alloc | apply Kd.R_drewN | apply Kd.R_drew)); exact h, by repeat (first | (with_reducible first | exact HB.out | apply below_alloc | apply pw_below_drewN | apply below_drew1) | exact HB.out)⟩

/-! ### Bad: a range over the function that wrong returns -/
attribute [local go_sem] Oper.semAt_some
/-- The indices, below k, of the words with wrong parity. -/
def bads (l : List Int) (k : Nat) : List Int := ((List.range k).filter fun j : Nat => !ob16 (rd l (j : Int))).map fun j : Nat => (j : Int)
theorem bads_yes (l : List Int) (k : Nat) (h : ob16 (rd l k) = false) : bads l (k + 1) = bads l k ++ [(k : Int)] := by
  simp [bads, List.range_succ, h]
theorem bads_no (l : List Int) (k : Nat) (h : ob16 (rd l k) = true) : bads l (k + 1) = bads l k := by
  simp [bads, List.range_succ, h]
theorem bads_length (l : List Int) : ∀ k, (bads l k).length ≤ k
  | k => by unfold bads; rw [List.length_map]; exact Nat.le_trans (List.length_filter_le _ _) (by simp)
theorem drawn_grown {w : World} (n : Nat) : w.grownBy (w.drewN n) none := grown_of_below (pw_below_drewN (Below.refl _ _) n) none
set_option maxRecDepth 100000 in
set_option maxHeartbeats 2000000 in
theorem wrong1_in (n : Nat) (hn : 1 ≤ n) (l Bs n₀ : Nat) (A : Option Addr) (c : Nat) (zs : List Int) (hreach : zs.length * 2 ≤ 140737488351232) (hz : ∀ x ∈ zs, (Lit.int .u16 x).wf = true)
    (J Jx : List Int → World → Prop)
    (hY : ∀ pre x W, J pre W → pre.length < zs.length → YieldAt Fence.wide (n - 1) Try.prog l #[.int .i64 x] W fun e W' =>
      (e = .returned (.bool true) ∧ J (pre ++ [x]) W' ∧ Below n₀ W W') ∨ (e = .returned (.bool false) ∧ Jx (pre ++ [x]) W'))
    (w W : World) (hn₀ : n₀ = w.heap.size) (hW : Below n₀ w W) (hJd : ∀ pre W m, J pre W → J pre (W.drewN m)) (hBs : W.cell? ⟨Bs, 0, none⟩ = some (.slice A zs.length c)) (hr : Kd.C (Kd.int .u16) w A zs.length zs) (h0 : J [] W) :
    CallsIn Fence.wide n Try.prog 29 #[.func (.yield l) #[] #[], .pointer (some ⟨Bs, 0, none⟩)] W fun e W' => (∃ v, e = .returned v) ∧
      ((∃ ys, ys = bads zs zs.length ∧ J ys W') ∨ (∃ pre, True ∧ Jx pre W')) := by
  subst hn₀
  refine callsIn_of_wp Try.func29 rfl trivial ?_ rfl
  simp only [Try.ntmps29, List.size_toArray, List.length_cons, List.length_nil, Nat.reduceAdd, Nat.reduceSub, Array.replicate_succ, Array.replicate_zero, List.push_toArray, List.append_toArray, List.nil_append, List.cons_append]
  gi_wp2
  gi_loopw [7] (fun i wr => ∃ k : Nat, k ≤ zs.length ∧ i = .int .i64 k ∧ J (bads zs k) wr ∧ Below w.heap.size w wr)
    (fun i _ => zs.length - (intOf i).toNat)
  case atStart => exact ⟨0, Nat.zero_le _, rfl, h0, hW⟩
  case round =>
    obtain ⟨k, hk, rfl, hJs, hnx⟩ := hrel
    by_cases hlt : k < zs.length
    · have hkl : (k : Int) < (zs.length : Int) := by omega
      obtain ⟨ad, eA, hx⟩ := Kd.at_int hr (k : Int) (by omega) hkl
      cases eA
      replace hx := (hnx.cell (World.block_lt_of_cell? w _ hx)).trans hx
      rw [Int.toNat_natCast] at hx
      have hrd := rd_range zs hz (k : Int) (by omega) hkl
      have O1 := odd_c (rd zs k) hrd.1 hrd.2
      obtain ⟨x, hxx⟩ : ∃ x, rd zs (k : Int) = x := ⟨_, rfl⟩
      cases hb : ob16 (rd zs (k : Int)) with
      | true =>
        have hb2 := bads_no zs k hb
        rw [hb] at O1
        rw [hxx] at O1 hx
        replace O1 := Lib.hid O1
        replace hb2 := Lib.hid hb2
        clear hb hxx hrd
        gi_wp2_with (refine ⟨trivial, ?_⟩; gi_at_call 26; refine (callsIn_wide.2 (O1.out _)).mono ?_; rintro e w' ⟨rfl, ⟨nd, rfl⟩⟩)
        refine ⟨fun _ h => (by cases h), ?_⟩
        gi_wp2
        go_roundw
        case rel => exact ⟨k + 1, by omega, by simp, by rw [hb2.out]; exact hJd _ _ _ hJs, pw_below_drewN hnx _⟩
        case measure => simp [intOf]; omega
      | false =>
        have hb2 := bads_yes zs k hb
        rw [hb] at O1
        rw [hxx] at O1 hx
        replace O1 := Lib.hid O1
        replace hb2 := Lib.hid hb2
        clear hb hxx hrd
        have hY1 := Lib.hid fun m => hY (bads zs k) (k : Int) (wr.drewN m) (hJd _ _ _ hJs) (by have := bads_length zs k; omega)
        gi_wp2_with (refine ⟨trivial, ?_⟩; gi_at_call 26; refine (callsIn_wide.2 (O1.out _)).mono ?_; rintro e w' ⟨rfl, ⟨nd, rfl⟩⟩; obtain ⟨fn, tmps, assign, body, hy, hR⟩ := hY1.out nd)
        refine hR.mono ?_
        rintro e W3 (⟨rfl, hJ3, hk3⟩ | ⟨rfl, hJx3⟩)
        · gi_wp2
          go_roundw
          case rel => exact ⟨k + 1, by omega, by simp, by rw [hb2.out]; exact hJ3, (pw_below_drewN hnx _).trans hk3⟩
          case measure => simp [intOf]; omega
        · gi_wp2
          refine bodyPost_ret (results_none rfl _ _ _) rfl ?_
          exact ⟨⟨_, rfl⟩, .inr ⟨_, trivial, hJx3⟩⟩
    · obtain rfl : k = zs.length := by omega
      gi_wp2
      go_end0
      exact ⟨⟨_, rfl⟩, .inl ⟨_, rfl, hJs⟩⟩

set_option maxHeartbeats 1000000 in
theorem wrong_in (n : Nat) (a : Option Addr) (len cap : Nat) (w : World) :
    CallsIn Fence.wide n Try.prog 28 #[.slice a len cap] w fun e w' => e = .returned (.func (.func 29) #[] #[.pointer (some ⟨w.heap.size, 0, none⟩)]) ∧ w' = w.alloc (.cells #[.slice a len cap] 40) := by
  refine callsIn_of_wp Try.func28 rfl trivial ?_ rfl
  simp only [Try.ntmps28, List.size_toArray, List.length_cons, List.length_nil, Nat.reduceAdd, Nat.reduceSub, Array.replicate_succ, Array.replicate_zero, List.push_toArray, List.append_toArray, List.nil_append, List.cons_append]
  gi_wp2
  go_ret
  exact ⟨rfl, rfl⟩
theorem wrong_stops (n : Nat) (hn : 1 ≤ n) (Bs n₀ : Nat) (A : Option Addr) (c : Nat) (zs : List Int) (hreach : zs.length * 2 ≤ 140737488351232) (hz : ∀ x ∈ zs, (Lit.int .u16 x).wf = true) (w0 w : World) (hBs : Bs < w.heap.size) (hn₀ : n₀ = w0.heap.size) (hw0 : Below n₀ w0 w)
    (hc : w.cell? ⟨Bs, 0, none⟩ = some (.slice A zs.length c)) (hr : Kd.C (Kd.int .u16) w0 A zs.length zs) :
    SeqStopsK Fence.wide n Try.prog 29 #[.pointer (some ⟨Bs, 0, none⟩)] (fun x : Int => #[Value.int .i64 x]) (Below n₀) (fun ys => ys = bads zs zs.length) (fun _ => True) zs.length w := fun l J Jx W hW hJ hJx hY h0 =>
  wrong1_in n hn l Bs n₀ A c zs hreach hz J Jx hY w0 W hn₀ (hw0.trans (hW.mono (by rw [hn₀] at hw0 ⊢; exact hw0.size))) (fun pre W m h => hJ pre W _ none h (drawn_grown m) (fun r e => by cases e)) ((hW.cell (p := ⟨Bs, 0, none⟩) hBs).trans hc) hr h0

theorem info3 : (Try.prog.info? 3).map (fun i => (i.zero, i.size, i.bytes)) = some (some (.int .i64 0), 1, 8) := by kernel_rfl
theorem holdsRow_own' {β : Type} (n₀ B : Nat) (t e : TypeId) (size : Nat) (k : β → Nat) (f : β → List Value) : Own (fun s W => ∃ v, Boxed W B t v ∧ W.ownsRow n₀ e size v (k s) (f s)) := by
  have h := holdsRow_own n₀ B t e size k f (fun _ _ => True)
  intro s X Y row ⟨v, hv, hr⟩ hg hrow
  obtain ⟨v', a, b, _⟩ := h s X Y row ⟨v, hv, hr, trivial⟩ hg hrow
  exact ⟨v', a, b⟩
set_option maxRecDepth 100000 in
set_option maxHeartbeats 2000000 in
theorem Bad_in (n : Nat) (hn : 3 ≤ n) (A : Option Addr) (c : Nat) (zs : List Int) (hreach : zs.length * 8 ≤ 140737488351232) (hz : ∀ x ∈ zs, (Lit.int .u16 x).wf = true) (w : World) (hr : Kd.C (Kd.int .u16) w A zs.length zs) :
    CallsIn Fence.wide n Try.prog 20 #[.slice A zs.length c] w fun e W' => ∃ v, e = .returned v ∧ Kd.R (Kd.int .i64) 3 W' w.heap.size (fun _ => True) v (bads zs zs.length) ∧ Below w.heap.size w W' := by
  have h1 : 1 ≤ n := by omega
  obtain ⟨i0, hi, hz0, hz1, hz2⟩ := info_parts info3
  refine callsIn_of_wp_marks Try.func20 rfl trivial ?_ rfl
  simp only [Try.ntmps20, List.size_toArray, List.length_cons, List.length_nil, Nat.reduceAdd, Nat.reduceSub, Array.replicate_succ, Array.replicate_zero, List.push_toArray, List.append_toArray, List.nil_append, List.cons_append]
  gi_wp2_with (refine ⟨trivial, ?_⟩; gi_at_call 28; refine (wrong_in (n - 1) _ _ _ _).mono ?_; rintro e w' ⟨rfl, rfl⟩)
  have bO := Boxed.new w 42 (.slice none 0 0)
  have bN := Boxed.new (w.alloc (.cells #[.slice none 0 0] 42)) 40 (.slice A zs.length c)
  rw [World.size_alloc] at bN
  have hB0 : Below w.heap.size w ((w.alloc (.cells #[.slice none 0 0] 42)).alloc (.cells #[.slice A zs.length c] 40)) := ((Below.refl _ w).alloc (Nat.le_refl _) _).alloc (by simp) _
  refine wpIn_rangeFunc_ownG rfl h1 (gf := 29) (lb := #[.pointer (some ⟨w.heap.size + 1, 0, none⟩)]) rfl trivial (enters_of Try.func29 (by kernel_rfl) rfl)
    (wrong_stops (n - 1) (by omega) (w.heap.size + 1) w.heap.size A c zs (by omega) hz w _ (by simp) rfl hB0 bN.cell hr) belowK_t (belowK_b (by simp; omega)) (Below.refl _ _) (fun _ => rfl)
    (fun pre W => (∃ v, Boxed W w.heap.size 42 v ∧ W.ownsRow w.heap.size 3 1 v pre.length (pre.map (Value.int .i64))) ∧ Below w.heap.size w W)
    (fun _ _ _ => False)
    (OwnFrom.and (Own.from (holdsRow_own' w.heap.size w.heap.size 42 3 1 (fun pre : List Int => pre.length) (fun pre => pre.map (Value.int .i64))) _) (ownFrom_below (Nat.le_refl _) (by simp; omega)))
    (fun _ _ _ _ _ hs _ _ => hs)
    ⟨⟨_, bO.alloc _, World.ownsRow_nil _ _ _ _⟩, hB0⟩
    (fun x => { tmps := #[.slice A zs.length c, undef, .slice none 0 0, .pointer (some ⟨w.heap.size, 0, none⟩), .int .i64 x, .slice A zs.length c, .func (.func 29) #[] #[.pointer (some ⟨w.heap.size + 1, 0, none⟩)], .int .i64 x, undef, undef, undef, undef, undef], defers := [] }) ?assign ?body ?done ?stop
  case assign =>
    intro l x W K hK
    gi_wp2
    exact hK
  case body =>
    rintro l pre x W ⟨⟨v, hv, hrow⟩, hB⟩ hlt
    have hc := hv.cell
    gi_wp2_with (gi_at_builtin; refine wpListIn_append_own _ rfl _ _ 42 rfl w.heap.size 3 i0 (.int .i64 0) 1 8 Try.underlying42 hi hz0 hz1 hz2 rfl (by decide) _ _ _ rfl (hrow.alloc _) ⟨W.heap.size, 0, none⟩ 1 1 [.int .i64 x] rfl rfl (cell_one_new _ _ _) (by simp [Value.oneCell']) (by unfold maxLen; omega) (by omega) (by have := hB.size; simp; omega) ?_; intro v' w1 hown' hgrow _; obtain ⟨g', cap', rfl⟩ := ownsRow_succ hown'; obtain ⟨hv1, hv2, hr2, hk2, hb2⟩ := hv.appended (by decide) hrow hB.size (Nat.le_refl _) hown' hgrow; have hc1 := hv1.cell; have hf1 := hv1.frozen)
    exact ⟨hk2.from _, hb2, ⟨_, hv2, by simpa using hr2⟩, hB.trans hb2⟩
  case done =>
    rintro D ys W hD rfl ⟨⟨v, hv, hrow⟩, hB⟩ hK
    have hc := hv.cell
    gi_wp2
    refine ⟨by simp, .inl ⟨_, _, rfl, run_takeDeferred hK, ?_⟩⟩
    exact ⟨_, results_tmp rfl _ _ _, v, rfl, Kd.R_of_own (enc := Value.int .i64) (h1 := fun _ => rfl) (ok := fun _ => True) (ownsRow_putObj hrow _ hK rfl) (fun _ _ => trivial), hB.trans (belowK_b (w := w) (Nat.le_refl _) W D _ _ (by simp at hD; omega) hK rfl rfl)⟩
  case stop =>
    rintro D c pre W _ _ h _
    exact h.elim
theorem Bad_c (A : Option Addr) (c : Nat) (zs : List Int) (hreach : zs.length * 8 ≤ 140737488351232) (hz : ∀ x ∈ zs, (Lit.int .u16 x).wf = true) (w : World) (hr : Kd.C (Kd.int .u16) w A zs.length zs) :
    Calls Try.prog 20 #[.slice A zs.length c] w fun e W' => ∃ v, e = .returned v ∧ Kd.R (Kd.int .i64) 3 W' w.heap.size (fun _ => True) v (bads zs zs.length) ∧ Below w.heap.size w W' :=
  callsIn_wide.1 (Bad_in 3 (by decide) A c zs hreach hz w hr)
end Go.Proofs.Ytjinijaegfolbaa.L02
