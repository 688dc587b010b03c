/- The law CounterCounts: plus and minus pulses are counted without loss, as values and signals; for every list and memory. -/
import Derived.Test.YtebnodldfddbnaaCnt18
namespace Go.Proofs.Ytebnodldfddbnaa.Cnt
open Go.RowKit Go.Proofs.Ytebnodldfddbnaa.PAll Go.Proofs.YtebnodldfddbnaaW.PrintWords Go.Proofs.YtebnodldfddbnaaW.PrintLast Go.Proofs.YtebnodldfddbnaaW.PrintMore Go.Proofs.Ytebnodldfddbnaa.Plain Go.Proofs.Ytebnodldfddbnaa.One Go.Proofs.Ytebnodldfddbnaa.Lit Go.Proofs.Ytebnodldfddbnaa.Own
set_option linter.unusedVariables false
set_option linter.unusedSimpArgs false
def qc (y : Int) : S26 := ⟨20 + y % 28, if 128 ≤ y then 2 else 1⟩
def qcs (pl : List Int) (i : Nat) : List S26 := (pl.take i).map qc
theorem qcs_len (pl : List Int) (i : Nat) (h : i ≤ pl.length) : (qcs pl i).length = i := by unfold qcs; rw [List.length_map, List.length_take]; omega
theorem qcs_next (pl : List Int) (i : Nat) (h : i < pl.length) : qcs pl i ++ [qc (rd pl i)] = qcs pl (i + 1) := by
  unfold qcs
  rw [List.take_succ_eq_append_getElem h, List.map_append]
  congr 1
  unfold rd
  rw [Int.toNat_natCast, List.getD_eq_getElem?_getD, List.getElem?_eq_getElem h]; rfl
theorem qc_kind (y : Int) : (qc y).f1 = 1 ∨ (qc y).f1 = 2 := by unfold qc; dsimp only; split <;> omega
theorem qcs_valid (pl : List Int) (i : Nat) : VQ (qcs pl i) ∧ K12 (qcs pl i) := by
  refine ⟨fun p hp => ?_, fun p hp => ?_⟩
  · unfold qcs at hp
    obtain ⟨y, hy, rfl⟩ := List.mem_map.mp hp
    have := qc_kind y
    have h0 : (qc y).f0 = 20 + y % 28 := rfl
    omega
  · unfold qcs at hp
    obtain ⟨y, hy, rfl⟩ := List.mem_map.mp hp
    exact qc_kind y
theorem qc_add (l : List S26) (y : Int) (hl : l.length < 64) : adE l.length (20 + y % 28) (qc y).f1 = 0 ∧ adL l (20 + y % 28) (qc y).f1 = l ++ [qc y] := by
  have hk := qc_kind y
  have e : adE l.length (20 + y % 28) (qc y).f1 = 0 := by unfold adE; rw [if_neg (by omega), if_neg (by omega), if_neg (by omega)]
  exact ⟨e, by unfold adL; rw [if_pos e]; rfl⟩
theorem infoInt3 : (Try.prog.info? 3).map (fun i => (i.zero, i.size, i.bytes)) = some (some (.int .i64 0), 1, 8) := by kernel_rfl
theorem ws_get (ws : List Int) (i : Int) (h0 : 0 ≤ i) (h1 : i < (ws.length : Int)) : (ws.map (Value.int .u16)).toArray[i.toNat]? = some (.int .u16 (rd ws i)) := by
  have hk : i.toNat < ws.length := by omega
  unfold rd
  rw [List.getElem?_toArray, List.getElem?_map, List.getD_eq_getElem?_getD, List.getElem?_eq_getElem hk]; rfl
theorem ws_rng {ws : List Int} (h : ∀ x ∈ ws, 0 ≤ x ∧ x < 65536) (i : Int) (h0 : 0 ≤ i) (h1 : i < (ws.length : Int)) : 0 ≤ rd ws i ∧ rd ws i < 65536 := by
  have hk : i.toNat < ws.length := by omega
  unfold rd
  rw [List.getD_eq_getElem?_getD, List.getElem?_eq_getElem hk]; exact h _ (List.getElem_mem hk)
def ST2 (ws : List Int) (i : Int) (eL : List Int) : Prop := (∀ j, 20 ≤ j → j < 20 + i → rd eL j = rd ws (j - 20) % 32768) ∧ ∀ j, 0 ≤ j → j < 48 → 0 ≤ rd eL j ∧ rd eL j < 65536
theorem ST2_start (ws : List Int) : ST2 ws 0 (List.replicate (Int.toNat 48) 0) := ⟨fun j h1 h2 => by omega, fun j _ _ => by rw [rd_rep]; decide⟩
theorem ST2_next {ws : List Int} {i : Int} {eL : List Int} (h : ST2 ws i eL) (he : eL.length = 48) (i0 : 0 ≤ i) (i1 : i < 28) : ST2 ws (i + 1) (eL.set (20 + i).toNat (rd ws i % 32768)) := by
  refine ⟨fun j h1 h2 => ?_, fun j h1 h2 => ?_⟩
  · rw [Own.rd_set he (20 + i) _ (by omega) (by omega) j (by omega)]
    by_cases e : j = 20 + i
    · rw [if_pos e, e, show 20 + i - 20 = i by omega]
    · rw [if_neg e]; exact h.1 j h1 (by omega)
  · rw [Own.rd_set he (20 + i) _ (by omega) (by omega) j h1]
    split
    · omega
    · exact h.2 j h1 h2
theorem g28 {i : Int} {g : Nat} (h : 0 ≤ i ∧ i + ((g + 1 : Nat) : Int) = 28) : 0 ≤ i + 1 ∧ i + 1 + (g : Int) = 28 := by omega
theorem w28 {i : Int} (h0 : 0 ≤ i) (h1 : i < 28) : wrap64 (i + 1) = i + 1 ∧ wrap64 (20 + i) = 20 + i := ⟨w64 (by omega) (by omega), w64 (by omega) (by omega)⟩
theorem valI_rng (x : Int) : -16383 ≤ valI x ∧ valI x ≤ 16383 := by unfold valI; split <;> omega
theorem fin64 {g a b t : Int} (h : a + 16384 * g = b + t ∧ -64 ≤ g ∧ g ≤ 64) (ha : -16383 ≤ a ∧ a ≤ 16383) : wrap64 (16384 * g) = 16384 * g ∧ wrap64 (a + 16384 * g) = b + t ∧ wrap64 (b + t) = b + t :=
  ⟨w64 (by omega) (by omega), by rw [w64 (by omega) (by omega)]; exact h.1, w64 (by omega) (by omega)⟩
theorem sig64 {g s : Int} {n : Nat} (h : -64 ≤ g - n ∧ g + n ≤ 64) (hs : -1 ≤ s ∧ s ≤ 1) : wrap64 (g + s) = g + s := w64 (by omega) (by omega)
theorem gst {k g n : Nat} (h : k + (g + 1) = n) : k + 1 + g = n := by omega
theorem y28w (y : Int) : wrap64 (y % 28) = y % 28 ∧ wrap64 (20 + y % 28) = 20 + y % 28 ∧ IntKind.i64.wrap (y % 28) = y % 28 := ⟨w64 (by omega) (by omega), w64 (by omega) (by omega), by rw [IntKind.wrap_i64]; omega⟩
theorem w64i {i : Nat} (h : i < 64) : wrap64 ((i : Int) + 1) = (i : Int) + 1 := w64 (by omega) (by omega)
set_option maxRecDepth 100000 in
set_option maxHeartbeats 8000000 in
theorem counts_calls (ws : List Int) (A0 : Option Addr) (c0 : Nat) (pl : List Int) (w : World) (hws : ws.length = 28) (hwr : ∀ x ∈ ws, 0 ≤ x ∧ x < 65536) (hr0 : Kd.C (Kd.int .u8) w A0 pl.length pl) (hc0 : pl.length ≤ c0) (hb0 : ∀ x ∈ pl, 0 ≤ x ∧ x < 256) :
    Calls Try.prog 10 #[.agg (ws.map (Value.int .u16)).toArray, .slice A0 pl.length c0] w fun e w' => e = .returned (.bool true) ∧ Below w.heap.size w w' := by
  have HB := Aside0.mk (Below.refl w.heap.size w)
  have hC0 := Aside0.mk hr0
  have hY := Lib.hid hb0
  have hW := Lib.hid hwr
  replace hws := Lib.hid hws
  clear hr0 hb0 hwr
  go_enter Try.func10, Try.ntmps10
  go_upto_region 2 with fail
  have K2 : Aside0 ((World.heap (w.alloc (.cells (ws.map (Value.int .u16)).toArray 56)))[w.heap.size]? = some (.cells (ws.map (Value.int .u16)).toArray 56 (0, 0))) := ⟨blk_new w _⟩
  have hb2w : Aside0 (Below w.heap.size w (w.alloc (.cells (ws.map (Value.int .u16)).toArray 56))) := ⟨(Below.refl _ w).alloc (Nat.le_refl _) _⟩
  clear HB
  have HB := hb2w
  clear hb2w
  generalize w.alloc (.cells (ws.map (Value.int .u16)).toArray 56) = w0 at K2 HB ⊢
  obtain ⟨b2, hb2⟩ : ∃ x, w.heap.size = x := ⟨_, rfl⟩
  rw [hb2] at K2 ⊢
  replace hb2 := Lib.hid hb2
  go_wp2
  go_loopg [5, 6] 64 (fun g v5 v6 w' => ∃ (i : Nat) (vq : Value), vq = v5 ∧ v6 = .int .i64 (i : Int) ∧ Aside0 (i + g = 64 ∧ i ≤ pl.length) ∧ Aside0 (Kd.R k26 26 w' w.heap.size (fun _ => True) vq (qcs pl i)) ∧ Aside0 ((World.heap (w'))[b2]? = some (.cells (ws.map (Value.int .u16)).toArray 56 (0, 0))) ∧ Aside0 (Below w.heap.size w w'))
  case atStart => exact ⟨0, _, rfl, rfl, ⟨by omega⟩, ⟨by unfold qcs; exact Kd.R_nil _ _ _ _ _⟩, K2, HB⟩
  case round =>
    clear HB K2
    obtain ⟨i, vq, rfl, rfl, hg, RQ, K2, HB⟩ := hrel
    by_cases hlt : i < pl.length ∧ i < 64
    · as_aux_lemma =>
      obtain ⟨hl1, hl2⟩ := hlt
      obtain ⟨g, rfl⟩ : ∃ g, gk = g + 1 := ⟨gk - 1, by have := hg.out; omega⟩
      have b0 : decide ((i : Int) < (pl.length : Int)) = true := decide_eq_true (by omega)
      have b0' : decide (i < pl.length) = true := decide_eq_true hl1
      have b1 : decide ((i : Int) < 64) = true := decide_eq_true (by omega)
      have b1' : decide (i < 64) = true := decide_eq_true hl2
      obtain ⟨ad, eA, hx⟩ := Kd.at_int (Kd.C_below hC0.out HB.out) (i : Int) (by omega) (by omega)
      cases eA
      rw [Int.toNat_natCast] at hx
      have hy := hY.out _ (show rd pl i ∈ pl by unfold rd; rw [Int.toNat_natCast, List.getD_eq_getElem?_getD, List.getElem?_eq_getElem hl1]; exact List.getElem_mem hl1)
      have QN := qcs_next pl i hl1
      have LQ := qcs_len pl i (Nat.le_of_lt hl1)
      obtain ⟨AQ, cQ, rfl⟩ := Kd.R_slice RQ.out
      generalize rd pl i = y at hx hy QN
      have qa := qc_add (qcs pl i) y (by omega)
      have AD := Lib.hid fun (w : World) h => Add_c AQ cQ (qcs pl i) (qcs pl i).length rfl (20 + y % 28) (qc y).f1 w h (by omega)
      rw [qa.1, qa.2, QN] at AD
      have hk : (128 ≤ y ∧ (qc y).f1 = 2) ∨ (¬ 128 ≤ y ∧ (qc y).f1 = 1) := by unfold qc; dsimp only; split <;> simp_all
      have t3 : Int.tmod y 28 = y % 28 := Int.tmod_eq_emod_of_nonneg hy.1
      have q0 := eq_true (Int.natCast_nonneg i)
      have q1 := eq_true (Int.ofNat_lt.mpr hl1)
      have q2 := eq_true hl1
      have wq5 := w64i hl2
      have wq6 := (y28w y).1
      have wq7 := (y28w y).2.1
      have wq8 := (y28w y).2.2
      have hg1 := hg
      clear hg hl2 hy qa QN LQ
      rcases hk with ⟨hk, ek⟩ | ⟨hk, ek⟩
      · rw [ek] at AD
        clear ek
        have b2 : decide (128 ≤ y) = true := decide_eq_true hk
        clear hk
        go_wp2_with (first | (go_at_call 18; (with_reducible refine at_args #[.slice AQ _ cQ, .agg #[.int .i64 (20 + y % 28), .int .u8 _]] ?_); (with_reducible refine (AD.out _ (Kd.R_reads' RQ.out).2.2).mono ?_); rintro e w2 ⟨v, rfl, hR, hbz⟩; replace RQ := Aside0.mk (Kd.R_lower hR (below_size HB.out)); replace K2 := Aside0.mk (blk_below K2.out hbz); clear hR; have HBn := Aside0.mk (below_step (by repeat (first | (with_reducible first | exact HB.out | apply below_alloc | apply pw_below_drewN | apply below_drew1) | exact HB.out)) hbz); clear HB hbz; have HB := HBn; clear HBn))
        go_roundg g
        case measure => omega
        case rel => exact ⟨i + 1, _, rfl, by simp [wq5], ⟨gst hg1.out.1, hl1⟩, ⟨RQ.out⟩, K2, HB⟩
      · rw [ek] at AD
        clear ek
        have b2 : decide (128 ≤ y) = false := decide_eq_false hk
        clear hk
        go_wp2_with (first | (go_at_call 18; (with_reducible refine at_args #[.slice AQ _ cQ, .agg #[.int .i64 (20 + y % 28), .int .u8 _]] ?_); (with_reducible refine (AD.out _ (Kd.R_reads' RQ.out).2.2).mono ?_); rintro e w2 ⟨v, rfl, hR, hbz⟩; replace RQ := Aside0.mk (Kd.R_lower hR (below_size HB.out)); replace K2 := Aside0.mk (blk_below K2.out hbz); clear hR; have HBn := Aside0.mk (below_step (by repeat (first | (with_reducible first | exact HB.out | apply below_alloc | apply pw_below_drewN | apply below_drew1) | exact HB.out)) hbz); clear HB hbz; have HB := HBn; clear HBn))
        go_roundg g
        case measure => omega
        case rel => exact ⟨i + 1, _, rfl, by simp [wq5], ⟨gst hg1.out.1, hl1⟩, ⟨RQ.out⟩, K2, HB⟩
    · by_cases hl1 : i < pl.length
      · have b0 : decide ((i : Int) < (pl.length : Int)) = true := decide_eq_true (by omega)
        have b0' : decide (i < pl.length) = true := decide_eq_true hl1
        have b1 : decide ((i : Int) < 64) = false := decide_eq_false (by omega)
        have b1' : decide (i < 64) = false := decide_eq_false (by omega)
        clear hlt hl1
        as_aux_lemma =>
        have hV := qcs_valid pl i
        have hLQ := Aside0.mk (show (qcs pl i).length ≤ 64 by rw [qcs_len pl i hg.out.2]; have := hg.out.1; omega)
        clear hY hg
        generalize qcs pl i = Q at RQ hV hLQ
        have hV2 := Aside0.mk hV
        clear hV
        obtain ⟨AQ, cQ, rfl⟩ := Kd.R_slice RQ.out
        go_wp2_with (first | (at_make; refine Kd.R_make (Kd.int .u16) (w0 := w) w.heap.size 23 rfl (N := 53) rfl 44 (.const (.int .i64 48)) (.const (.int .i64 48)) rfl 48 rfl rfl Try.underlying44 (.int .u16 0) 2 infoWord rfl (by decide) (by decide) 0 (ok := fun _ => True) (okp := fun _ => True) ?hzeroe (fun _ _ => trivial) trivial (by decide) ?hle ?hHBe ?hbasee ?_; (case hzeroe => rfl); (case hle => decide); (case hHBe => exact (by repeat (first | (with_reducible first | exact HB.out | apply below_alloc | apply pw_below_drewN | apply below_drew1) | exact HB.out))); (case hbasee => exact below_size (by repeat (first | (with_reducible first | exact HB.out | apply below_alloc | apply pw_below_drewN | apply below_drew1) | exact HB.out))); intro v6 w6e hR hb6 hg hat; have hbW := pw_below_grown (Below.refl _ _) none (Nat.le_refl _) hg (fun k hk => by cases hk); obtain ⟨ge, ke, rfl, Oe, hfe⟩ := OW.of hR rfl (by decide) hat; replace Oe := Aside0.mk Oe; skip; replace RQ := Aside0.mk (Kd.R_below RQ.out hbW); replace K2 := Aside0.mk (blk_below K2.out hbW); clear HB hR hg hat hbW; have HB := Aside0.mk hb6; clear hb6))
        have ne2 : Aside0 (b2 ≠ ge) := ⟨by obtain ⟨ce, he⟩ := Oe.out.2.2.2.2.1; exact blk_ne K2.out he (by decide)⟩
        go_loopg [11] 28 (fun g v11 w' => ∃ (i : Int) (eL : List Int), v11 = .int .i64 i ∧ Aside0 (0 ≤ i ∧ i + g = 28) ∧ Aside0 (ST2 ws i eL) ∧ Aside0 (OW .u16 23 (w') w.heap.size ge 48 ke eL) ∧ Aside0 (Kd.R k26 26 (w') w.heap.size (fun _ => True) (.slice AQ Q.length cQ) Q) ∧ Aside0 ((World.heap (w'))[b2]? = some (.cells (ws.map (Value.int .u16)).toArray 56 (0, 0))) ∧ Aside0 (Below w.heap.size w (w')))
        case atStart => exact ⟨0, _, rfl, ⟨by decide, by decide⟩, ⟨ST2_start ws⟩, Oe, RQ, K2, HB⟩
        case round =>
          as_aux_lemma =>
          clear Oe RQ K2 HB
          obtain ⟨i, eL, rfl, hg, hS, OE, RQ, K2, HB⟩ := hrel
          by_cases hlt : i < 28
          · obtain ⟨g, rfl⟩ : ∃ g, gk = g + 1 := ⟨gk - 1, by have := hg.out; omega⟩
            have b3 : decide (i < 28) = true := decide_eq_true hlt
            have i0 := hg.out.1
            have hxr := ws_rng hW.out i i0 (by have := hws.out; omega)
            have hx : wr.cell? ⟨b2, i.toNat, none⟩ = some (.int .u16 (rd ws i)) := (blk_cell K2.out i.toNat).trans (ws_get ws i i0 (by have := hws.out; omega))
            have hS2 := Aside0.mk (ST2_next hS.out OE.out.1 i0 hlt)
            obtain ⟨hc, hf⟩ := OE.out.cell (20 + i) (by omega) (by omega)
            have q0 := eq_true i0
            have q1 := eq_true hlt
            have q2 := eq_true (show 0 ≤ 20 + i by omega)
            have q3 := eq_true (show 20 + i < 48 by omega)
            have t1 : Int.tmod (rd ws i) 32768 = rd ws i % 32768 := Int.tmod_eq_emod_of_nonneg hxr.1
            have ww := w28 i0 hlt
            have wq1 := ww.1
            have wq2 := ww.2
            clear hS ww hxr
            go_wp2
            go_roundg g
            case measure => omega
            case rel => exact ⟨i + 1, _, by simp [wq1], ⟨(g28 hg.out).1, (g28 hg.out).2⟩, hS2, ⟨OE.out.put (20 + i) _⟩, ⟨OE.out.R_over RQ.out (by decide) _ _⟩, ⟨blk_far K2.out ne2.out _⟩, ⟨below_set HB.out OE.out.2.2.1⟩⟩
          · have b3 : decide (i < 28) = false := decide_eq_false hlt
            have hC := Aside0.mk (show CNT (fun j => rd ws (j - 20)) Q Q eL (List.replicate (Int.toNat 48) 0) from CNT_start hV2.out.1 hV2.out.2 hLQ.out (fun j h1 h2 => hS.out.1 j h1 (by have := hg.out; omega)) hS.out.2)
            clear hg hS hlt hV2
            go_wp2_with (first | (at_make; refine Kd.R_make (Kd.int .i64) (w0 := w) w.heap.size 3 rfl (N := 66) rfl 57 (.const (.int .i64 48)) (.const (.int .i64 48)) rfl 48 rfl rfl Try.underlying57 (.int .i64 0) 8 infoInt3 rfl (by decide) (by decide) 0 (ok := fun _ => True) (okp := fun _ => True) ?hzerog (fun _ _ => trivial) trivial (by decide) ?hlg ?hHBg ?hbaseg ?_; (case hzerog => rfl); (case hlg => decide); (case hHBg => exact (by repeat (first | (with_reducible first | exact HB.out | apply below_alloc | apply pw_below_drewN | apply below_drew1) | exact HB.out))); (case hbaseg => exact below_size (by repeat (first | (with_reducible first | exact HB.out | apply below_alloc | apply pw_below_drewN | apply below_drew1) | exact HB.out))); intro v6 w6g hR hb6 hg hat; have hbW := pw_below_grown (Below.refl _ _) none (Nat.le_refl _) hg (fun k hk => by cases hk); obtain ⟨gg, kg, rfl, Og, hfg⟩ := OW.of hR rfl (by decide) hat; replace Og := Aside0.mk Og; have hne : ge ≠ gg := (by have h1 := OE.out.2.2.2.1; have h2 := hfg; omega); replace OE := Aside0.mk (OE.out.below hbW); replace RQ := Aside0.mk (Kd.R_below RQ.out hbW); replace K2 := Aside0.mk (blk_below K2.out hbW); clear HB hR hg hat hbW; have HB := Aside0.mk hb6; clear hb6))
            go_loopg [13] Q.length (fun g v13 w' => ∃ (A : Option Addr) (n c : Nat) (l : List S26) (eL gL : List Int), v13 = .slice A n c ∧ Aside0 (l.length = n ∧ g = n ∧ n ≤ 64) ∧ Aside0 (CNT (fun j => rd ws (j - 20)) Q l eL gL) ∧ Aside0 (OW .u16 23 (w') w.heap.size ge 48 ke eL) ∧ Aside0 (OW .i64 3 (w') w.heap.size gg 48 kg gL) ∧ Aside0 (Kd.R k26 26 (w') w.heap.size (fun _ => True) (.slice A n c) l) ∧ Aside0 (Kd.R k26 26 (w') w.heap.size (fun _ => True) (.slice AQ Q.length cQ) Q) ∧ Aside0 ((World.heap (w'))[b2]? = some (.cells (ws.map (Value.int .u16)).toArray 56 (0, 0))) ∧ Aside0 (Below w.heap.size w (w')))
            case atStart => exact ⟨AQ, Q.length, cQ, Q, eL, _, rfl, ⟨rfl, rfl, hLQ.out⟩, hC, OE, Og, RQ, RQ, K2, HB⟩
            case round =>
              as_aux_lemma =>
              clear OE Og RQ K2 HB hC
              obtain ⟨A, n, c, l, eL, gL, rfl, hn, hI, OE, OG, RL, RQ, K2, HB⟩ := hrel
              by_cases hp : 0 < n
              · as_aux_lemma =>
                have IN := CNT_next hI.out (by have := hn.out; omega) OE.out.1 OG.out.1
                have hr := hI.out.2.2.2.1
                have hsb := hI.out.2.2.2.2
                have hc := (Kd.R_reads' RL.out).2.1
                have RCx := Aside0.mk (show Kd.C k26 wr A n l by have h := (Kd.R_reads' RL.out).2.2; rw [hn.out.1] at h; exact h)
                have SV := Lib.hid fun (w : World) h hE => Serve_c A c l (some ⟨ge, 0, none⟩) ke 48 eL w n hn.out.1 OE.out.1 h hc (by have := hn.out; omega) hE (fun i i0 i1 => hr i i0 (by have := OE.out.1; omega))
                rw [IN.1] at SV
                obtain ⟨g, rfl⟩ : ∃ g, gk = g + 1 := ⟨gk - 1, by have := hn.out; omega⟩
                generalize sA l eL = cA at SV IN
                generalize sW l eL = cW at SV IN
                generalize sS l eL = sg at SV IN
                generalize sL l eL = l' at SV IN
                obtain ⟨n', hn'⟩ : ∃ n', l'.length = n' := ⟨_, rfl⟩
                have hA0 := Aside0.mk (show 0 ≤ cA by have := IN.2.1; omega)
                have hA1 := Aside0.mk (show cA < 48 by have := IN.2.1; omega)
                have hnn := Aside0.mk (show n' + 1 = n ∧ n' = g by have := hn.out; have := IN.2.2.1; omega)
                have b4 : decide (0 < (n : Int)) = true := decide_eq_true (by omega)
                have b4' : decide (0 < n) = true := decide_eq_true hp
                have t1 : decide (cA < 20) = false := decide_eq_false (by have := IN.2.1; omega)
                have t2 : decide (47 < cA) = false := decide_eq_false (by have := IN.2.1; omega)
                have t3 : wrap64 ((n : Int) - 1) = (n' : Int) := by rw [w64 (by omega) (by have := hn.out; omega)]; have := hnn.out; omega
                have t4 : ((n' : Int) != (n' : Int)) = false := bne_self_eq_false _
                have hIN := Aside0.mk IN.2.2.2.2
                have wqs := sig64 (hsb cA hA0.out hA1.out) IN.2.2.2.1
                have h64 := Aside0.mk (show n' ≤ 64 by have := hn.out; have := hnn.out; omega)
                replace hn' := Lib.hid hn'
                have q5 := eq_true hA0.out
                have q6 := eq_true hA1.out
                clear IN hr hc hp hI hsb
                go_upto_region 21 with (go_at_call 19; (with_reducible refine at_args #[.slice A n c, .slice (some ⟨ge, 0, none⟩) 48 ke] ?_); (with_reducible refine (SV.out _ RCx.out OE.out.C).mono ?_); rintro e w12 ⟨vs, rfl, hRs, hbz⟩; obtain ⟨As, cs, rfl⟩ := Kd.R_slice hRs; rw [hn'.out] at hRs ⊢; have RL2 := Aside0.mk (Kd.R_lower hRs (below_size HB.out)); clear RL hRs RCx; have RL := RL2; clear RL2; replace OE := Aside0.mk (OE.out.below hbz); replace OG := Aside0.mk (OG.out.below hbz); replace RQ := Aside0.mk (Kd.R_below RQ.out hbz); replace K2 := Aside0.mk (blk_below K2.out hbz); have HBn := Aside0.mk (below_step (by repeat (first | (with_reducible first | exact HB.out | apply below_alloc | apply pw_below_drewN | apply below_drew1) | exact HB.out)) hbz); clear HB hbz; have HB := HBn; clear HBn)
                clear SV
                have z0 : (w12.alloc (.cells #[.int .i64 cA, .int .u16 cW] 46)).cell? ⟨w12.heap.size, 0, none⟩ = some (.int .i64 cA) := by rw [World.cell?_alloc_mark]; rfl
                have z1 : (w12.alloc (.cells #[.int .i64 cA, .int .u16 cW] 46)).cell? ⟨w12.heap.size, 1, none⟩ = some (.int .u16 cW) := by rw [World.cell?_alloc_mark]; rfl
                have hnb := Aside0.mk (show ge ≠ w12.heap.size by have := OE.out.2.2.2.1; omega)
                have hnb2 := Aside0.mk (show gg ≠ w12.heap.size by have := OG.out.2.2.2.1; omega)
                have n_OE : Aside0 (OW .u16 23 ((w12.alloc (.cells #[.int .i64 cA, .int .u16 cW] 46))) w.heap.size ge 48 ke eL) := ⟨OE.out.alloc _⟩
                have n_OG : Aside0 (OW .i64 3 ((w12.alloc (.cells #[.int .i64 cA, .int .u16 cW] 46))) w.heap.size gg 48 kg gL) := ⟨OG.out.alloc _⟩
                have n_RL : Aside0 (Kd.R k26 26 ((w12.alloc (.cells #[.int .i64 cA, .int .u16 cW] 46))) w.heap.size (fun _ => True) (.slice As n' cs) l') := ⟨Kd.R_alloc RL.out _⟩
                have n_RQ : Aside0 (Kd.R k26 26 ((w12.alloc (.cells #[.int .i64 cA, .int .u16 cW] 46))) w.heap.size (fun _ => True) (.slice AQ Q.length cQ) Q) := ⟨Kd.R_alloc RQ.out _⟩
                have n_K2 : Aside0 ((World.heap ((w12.alloc (.cells #[.int .i64 cA, .int .u16 cW] 46))))[b2]? = some (.cells (ws.map (Value.int .u16)).toArray 56 (0, 0))) := ⟨blk_alloc K2.out _⟩
                have n_HB : Aside0 (Below w.heap.size w ((w12.alloc (.cells #[.int .i64 cA, .int .u16 cW] 46)))) := ⟨below_alloc HB.out _⟩
                clear OE OG RL RQ K2 HB
                generalize (w12.alloc (.cells #[.int .i64 cA, .int .u16 cW] 46)) = wb at n_OE n_OG n_RL n_RQ n_K2 n_HB z0 z1 ⊢
                have OE := n_OE
                have OG := n_OG
                have RL := n_RL
                have RQ := n_RQ
                have K2 := n_K2
                have HB := n_HB
                clear n_OE n_OG n_RL n_RQ n_K2 n_HB
                obtain ⟨hb_, hhb⟩ : ∃ x, w12.heap.size = x := ⟨_, rfl⟩
                rw [hhb] at z0 z1 hnb hnb2 ⊢
                clear hhb
                go_upto_region 23 with fail
                obtain ⟨se, sf⟩ := OE.out.cell cA hA0.out hA1.out
                go_upto_region 24 with fail
                replace z0 := (World.cell?_setCell_far wb ⟨ge, cA.toNat, none⟩ ⟨hb_, 0, none⟩ (.int .u16 cW) hnb.out).trans z0
                clear z1 se sf
                have n_OE : Aside0 (OW .u16 23 ((wb.setCell ⟨ge, cA.toNat, none⟩ (.int .u16 cW))) w.heap.size ge 48 ke (eL.set cA.toNat cW)) := ⟨OE.out.put cA cW⟩
                have n_OG : Aside0 (OW .i64 3 ((wb.setCell ⟨ge, cA.toNat, none⟩ (.int .u16 cW))) w.heap.size gg 48 kg gL) := ⟨OG.out.far hne _ _⟩
                have n_RL : Aside0 (Kd.R k26 26 ((wb.setCell ⟨ge, cA.toNat, none⟩ (.int .u16 cW))) w.heap.size (fun _ => True) (.slice As n' cs) l') := ⟨OE.out.R_over RL.out (by decide) _ _⟩
                have n_RQ : Aside0 (Kd.R k26 26 ((wb.setCell ⟨ge, cA.toNat, none⟩ (.int .u16 cW))) w.heap.size (fun _ => True) (.slice AQ Q.length cQ) Q) := ⟨OE.out.R_over RQ.out (by decide) _ _⟩
                have n_K2 : Aside0 ((World.heap ((wb.setCell ⟨ge, cA.toNat, none⟩ (.int .u16 cW))))[b2]? = some (.cells (ws.map (Value.int .u16)).toArray 56 (0, 0))) := ⟨blk_far K2.out ne2.out _⟩
                have n_HB : Aside0 (Below w.heap.size w ((wb.setCell ⟨ge, cA.toNat, none⟩ (.int .u16 cW)))) := ⟨below_set HB.out OE.out.2.2.1⟩
                clear OE OG RL RQ K2 HB
                generalize (wb.setCell ⟨ge, cA.toNat, none⟩ (.int .u16 cW)) = wc at n_OE n_OG n_RL n_RQ n_K2 n_HB z0 ⊢
                have OE := n_OE
                have OG := n_OG
                have RL := n_RL
                have RQ := n_RQ
                have K2 := n_K2
                have HB := n_HB
                clear n_OE n_OG n_RL n_RQ n_K2 n_HB
                obtain ⟨hgc, hgf⟩ := OG.out.cell cA hA0.out hA1.out
                obtain ⟨gv, hgv⟩ : ∃ x, rd gL cA = x := ⟨_, rfl⟩
                rw [hgv] at hgc hIN wqs
                clear hgv
                refine start_ (n := 12) (S := fun w' => w'.cell? ⟨hb_, 0, none⟩ = some (.int .i64 cA) ∧ w'.cell? ⟨gg, cA.toNat, none⟩ = some (.int .i64 gv)) (ds := [11]) #[false, false, false, false, false, false, false, false, false, false, false, false] (by kernel_rfl) rfl rfl ⟨z0, hgc⟩ (fun hHeld => ?_)
                replace OE : Aside0 (OW .u16 23 (wc.drew) w.heap.size ge 48 ke (eL.set cA.toNat cW)) := ⟨OE.out.drew⟩
                replace OG : Aside0 (OW .i64 3 (wc.drew) w.heap.size gg 48 kg gL) := ⟨OG.out.drew⟩
                replace RL : Aside0 (Kd.R k26 26 (wc.drew) w.heap.size (fun _ => True) (.slice As n' cs) l') := ⟨Kd.R_drew RL.out⟩
                replace RQ : Aside0 (Kd.R k26 26 (wc.drew) w.heap.size (fun _ => True) (.slice AQ Q.length cQ) Q) := ⟨Kd.R_drew RQ.out⟩
                replace K2 : Aside0 ((World.heap (wc.drew))[b2]? = some (.cells (ws.map (Value.int .u16)).toArray 56 (0, 0))) := ⟨blk_drew K2.out⟩
                replace HB : Aside0 (Below w.heap.size w (wc.drew)) := ⟨below_drew1 HB.out⟩
                change wc.drew.cell? _ = _ at z0 hgc
                change wc.drew.frozen? _ = _ at hgf
                generalize wc.drew = wd at OE OG RL RQ K2 HB z0 hgc hgf hHeld ⊢
                refine pure_ (i := 0) (N := some 105) (v := ?_) (a' := ?_) #[true, false, false, false, false, false, false, false, false, false, false, false] rfl rfl (by kernel_rfl) (fun _ _ _ h => h) (Or.inl ⟨by rfl, ?_⟩) ?_ ?_
                rotate_left
                · intro w'
                  go_simp
                  with_reducible rfl
                rotate_left
                · simp only [Act.put, List.setIfInBounds_toArray, List.set_cons_zero, List.set_cons_succ, i64_w, i32_w]
                  rfl
                refine pure_ (i := 1) (N := some 106) (v := ?_) (a' := ?_) #[true, true, false, false, false, false, false, false, false, false, false, false] rfl rfl (by kernel_rfl) (fun _ _ _ h => h) (Or.inl ⟨by rfl, ?_⟩) ?_ ?_
                rotate_left
                · intro w'
                  go_simp
                  with_reducible rfl
                rotate_left
                · simp only [Act.put, List.setIfInBounds_toArray, List.set_cons_zero, List.set_cons_succ, i64_w, i32_w]
                  rfl
                refine pure_ (i := 3) (N := some 108) (v := ?_) (a' := ?_) #[true, true, false, true, false, false, false, false, false, false, false, false] rfl rfl (by kernel_rfl) (fun _ _ _ h => h) (Or.inl ⟨by rfl, ?_⟩) ?_ ?_
                rotate_left
                · intro w'
                  go_simp
                  with_reducible rfl
                rotate_left
                · simp only [Act.put, List.setIfInBounds_toArray, List.set_cons_zero, List.set_cons_succ, i64_w, i32_w]
                  rfl
                refine pure_ (i := 4) (N := some 109) (v := ?_) (a' := ?_) #[true, true, false, true, true, false, false, false, false, false, false, false] rfl rfl (by kernel_rfl) (fun _ _ _ h => h) (Or.inl ⟨by rfl, ?_⟩) ?_ ?_
                rotate_left
                · intro w'
                  go_simp
                  with_reducible rfl
                rotate_left
                · simp only [Act.put, List.setIfInBounds_toArray, List.set_cons_zero, List.set_cons_succ, i64_w, i32_w]
                  rfl
                refine pure_ (i := 8) (N := some 113) (v := ?_) (a' := ?_) #[true, true, false, true, true, false, false, false, true, false, false, false] rfl rfl (by kernel_rfl) (fun _ _ _ h => h) (Or.inl ⟨by rfl, ?_⟩) ?_ ?_
                rotate_left
                · intro w'
                  go_simp
                  with_reducible rfl
                rotate_left
                · simp only [Act.put, List.setIfInBounds_toArray, List.set_cons_zero, List.set_cons_succ, i64_w, i32_w]
                  rfl
                refine take_ (i := 2) (N := some 107) (v := ?_) (a' := ?_) #[true, true, true, true, true, false, false, false, true, false, false, false] rfl rfl (by kernel_rfl) (fun _ _ _ h => h) (Or.inl ⟨by rfl, ?_⟩) hHeld ?_ ?_
                rotate_left
                · rintro w' ⟨s0, s1⟩
                  go_simp
                  with_reducible rfl
                rotate_left
                · simp only [Act.put, List.setIfInBounds_toArray, List.set_cons_zero, List.set_cons_succ, i64_w, i32_w]
                  rfl
                refine take_ (i := 5) (N := some 110) (v := ?_) (a' := ?_) #[true, true, true, true, true, true, false, false, true, false, false, false] rfl rfl (by kernel_rfl) (fun _ _ _ h => h) (Or.inl ⟨by rfl, ?_⟩) hHeld ?_ ?_
                rotate_left
                · rintro w' ⟨s0, s1⟩
                  go_simp
                  with_reducible rfl
                rotate_left
                · simp only [Act.put, List.setIfInBounds_toArray, List.set_cons_zero, List.set_cons_succ, i64_w, i32_w]
                  rfl
                refine pure_ (i := 6) (N := some 111) (v := ?_) (a' := ?_) #[true, true, true, true, true, true, true, false, true, false, false, false] rfl rfl (by kernel_rfl) (fun _ _ _ h => h) (Or.inl ⟨by rfl, ?_⟩) ?_ ?_
                rotate_left
                · intro w'
                  go_simp
                  with_reducible rfl
                rotate_left
                · simp only [Act.put, List.setIfInBounds_toArray, List.set_cons_zero, List.set_cons_succ, i64_w, i32_w]
                  rfl
                refine take_ (i := 7) (N := some 112) (v := ?_) (a' := ?_) #[true, true, true, true, true, true, true, true, true, false, false, false] rfl rfl (by kernel_rfl) (fun _ _ _ h => h) (Or.inl ⟨by rfl, ?_⟩) hHeld ?_ ?_
                rotate_left
                · rintro w' ⟨s0, s1⟩
                  go_simp
                  with_reducible rfl
                rotate_left
                · simp only [Act.put, List.setIfInBounds_toArray, List.set_cons_zero, List.set_cons_succ, i64_w, i32_w]
                  rfl
                refine pure_ (i := 9) (N := some 114) (v := ?_) (a' := ?_) #[true, true, true, true, true, true, true, true, true, true, false, false] rfl rfl (by kernel_rfl) (fun _ _ _ h => h) (Or.inl ⟨by rfl, ?_⟩) ?_ ?_
                rotate_left
                · intro w'
                  go_simp
                  with_reducible rfl
                rotate_left
                · simp only [Act.put, List.setIfInBounds_toArray, List.set_cons_zero, List.set_cons_succ, i64_w, i32_w]
                  rfl
                refine pure_ (i := 10) (N := some 115) (v := ?_) (a' := ?_) #[true, true, true, true, true, true, true, true, true, true, true, false] rfl rfl (by kernel_rfl) (fun _ _ _ h => h) (Or.inl ⟨by rfl, ?_⟩) ?_ ?_
                rotate_left
                · intro w'
                  go_simp
                  with_reducible rfl
                rotate_left
                · simp only [Act.put, List.setIfInBounds_toArray, List.set_cons_zero, List.set_cons_succ, i64_w, i32_w]
                  rfl
                refine last_ (i := 11) (N := none) #[true, true, true, true, true, true, true, true, true, true, true, true] rfl rfl (by kernel_rfl) (by decide) (fun K hK => ?_)
                refine skip_ (w1 := ?_) (by rfl) rfl ?_ ?_
                rotate_left
                · go_simp
                  rfl
                refine hK.out _ _ ?_
                clear hK K
                refine done_ (by kernel_rfl) ?_
        
                go_wp2
                go_roundg g
                case measure => omega
                case rel => exact ⟨As, n', cs, l', _, _, rfl, ⟨hn'.out, hnn.out.2.symm, h64.out⟩, hIN, ⟨OE.out.far (fun e => hne e.symm) _ _⟩, ⟨OG.out.put cA (gv + sg)⟩, ⟨OG.out.R_over RL.out (by decide) _ _⟩, ⟨OG.out.R_over RQ.out (by decide) _ _⟩, ⟨blk_far K2.out (by obtain ⟨ce, he⟩ := OG.out.2.2.2.2.1; exact blk_ne K2.out he (by decide)) _⟩, ⟨below_set HB.out OG.out.2.2.1⟩⟩
              · as_aux_lemma =>
                have b4 : decide (0 < (n : Int)) = false := decide_eq_false (by omega)
                have b4' : decide (0 < n) = false := decide_eq_false hp
                have hEN := Aside0.mk (fun j h1 h2 => CNT_end hI.out (by have := hn.out; omega) j h1 h2)
                have hRG := Aside0.mk hI.out.2.2.2.1
                clear hn hI hp RL
                go_wp2
                go_loopg [18] 28 (fun g v18 w' => ∃ i : Int, v18 = .int .i64 i ∧ Aside0 (0 ≤ i ∧ i + g = 28) ∧ Aside0 (OW .u16 23 (w') w.heap.size ge 48 ke eL) ∧ Aside0 (OW .i64 3 (w') w.heap.size gg 48 kg gL) ∧ Aside0 (Kd.R k26 26 (w') w.heap.size (fun _ => True) (.slice AQ Q.length cQ) Q) ∧ Aside0 ((World.heap (w'))[b2]? = some (.cells (ws.map (Value.int .u16)).toArray 56 (0, 0))) ∧ Aside0 (Below w.heap.size w (w')))
                case atStart => exact ⟨0, rfl, ⟨by decide, by decide⟩, OE, OG, RQ, K2, HB⟩
                case round =>
                  clear OE OG RQ K2 HB
                  obtain ⟨i, rfl, hg, OE, OG, RQ, K2, HB⟩ := hrel
                  by_cases hlt : i < 28
                  · as_aux_lemma =>
                    obtain ⟨g, rfl⟩ : ∃ g, gk = g + 1 := ⟨gk - 1, by have := hg.out; omega⟩
                    have b5 : decide (i < 28) = true := decide_eq_true hlt
                    have i0 := hg.out.1
                    have hxr := ws_rng hW.out i i0 (by have := hws.out; omega)
                    have hyr := hRG.out (20 + i) (by omega) (by omega)
                    have hx : wr.cell? ⟨b2, i.toNat, none⟩ = some (.int .u16 (rd ws i)) := (blk_cell K2.out i.toNat).trans (ws_get ws i i0 (by have := hws.out; omega))
                    have hE := hEN.out (20 + i) (by omega) (by omega)
                    rw [show 20 + i - 20 = i by omega] at hE
                    obtain ⟨hy, hyf⟩ := OE.out.cell (20 + i) (by omega) (by omega)
                    have TT := Lib.hid (show ∀ (w : World), Kd.C k26 w AQ Q.length Q → Calls Try.prog 25 #[.slice AQ Q.length cQ, .int .i64 (wrap64 (20 + i))] w (fun e w' => e = .returned (.int .i64 (tot (20 + i) Q)) ∧ Below w.heap.size w w') from fun w h => by rw [(w28 i0 hlt).2]; exact Total_c AQ cQ Q Q.length rfl (20 + i) w h (by have := hLQ.out; omega))
                    have q0 := eq_true i0
                    have q1 := eq_true hlt
                    have q2 := eq_true (show 0 ≤ 20 + i by omega)
                    have q3 := eq_true (show 20 + i < 48 by omega)
                    generalize rd ws i = xv at hx hxr hE
                    obtain ⟨yv, hyv⟩ : ∃ x, rd eL (20 + i) = x := ⟨_, rfl⟩
                    rw [hyv] at hy hyr hE
                    replace hyv := Lib.hid hyv
                    obtain ⟨gv, hgv⟩ : ∃ x, rd gL (20 + i) = x := ⟨_, rfl⟩
                    rw [hgv] at hE
                    replace hgv := Lib.hid hgv
                    have VX := Lib.hid fun (w : World) => value_c xv hxr.1 hxr.2 w
                    have VY := Lib.hid fun (w : World) => value_c yv hyr.1 hyr.2 w
                    have F := fin64 hE (valI_rng yv)
                    generalize tot (20 + i) Q = tv at TT F
                    generalize valI xv = xV at VX F
                    generalize valI yv = yV at VY F
                    have wf1 := F.1
                    have wf2 := F.2.1
                    have wf3 := F.2.2
                    have n1 : ((xV + tv) != (xV + tv)) = false := bne_self_eq_false _
                    have ww := w28 i0 hlt
                    have wq1 := ww.1
                    have wq2 := ww.2
                    clear ww F hE hxr hyr hyf
                    go_upto_region 29 with fail
                    refine start_ (n := 12) (S := fun w' => w'.cell? ⟨b2, i.toNat, none⟩ = some (.int .u16 xv) ∧ w'.cell? ⟨ge, (20 + i).toNat, none⟩ = some (.int .u16 yv)) (ds := []) #[false, false, false, false, false, false, false, false, false, false, false, false] (by kernel_rfl) rfl rfl ⟨hx, hy⟩ (fun hHeld => ?_)
                    replace OE : Aside0 (OW .u16 23 (wr.drew) w.heap.size ge 48 ke eL) := ⟨OE.out.drew⟩
                    replace OG : Aside0 (OW .i64 3 (wr.drew) w.heap.size gg 48 kg gL) := ⟨OG.out.drew⟩
                    replace RQ : Aside0 (Kd.R k26 26 (wr.drew) w.heap.size (fun _ => True) (.slice AQ Q.length cQ) Q) := ⟨Kd.R_drew RQ.out⟩
                    replace K2 : Aside0 ((World.heap (wr.drew))[b2]? = some (.cells (ws.map (Value.int .u16)).toArray 56 (0, 0))) := ⟨blk_drew K2.out⟩
                    replace HB : Aside0 (Below w.heap.size w (wr.drew)) := ⟨below_drew1 HB.out⟩
                    change wr.drew.cell? _ = _ at hx hy
                    generalize wr.drew = wd at OE OG RQ K2 HB hx hy hHeld ⊢
                    refine pure_ (i := 0) (N := some 121) (v := ?_) (a' := ?_) #[true, false, false, false, false, false, false, false, false, false, false, false] rfl rfl (by kernel_rfl) (fun _ _ _ h => h) (Or.inl ⟨by rfl, ?_⟩) ?_ ?_
                    rotate_left
                    · intro w'
                      go_simp
                      with_reducible rfl
                    rotate_left
                    · simp only [Act.put, List.setIfInBounds_toArray, List.set_cons_zero, List.set_cons_succ, i64_w, i32_w]
                      rfl
                    refine pure_ (i := 1) (N := some 122) (v := ?_) (a' := ?_) #[true, true, false, false, false, false, false, false, false, false, false, false] rfl rfl (by kernel_rfl) (fun _ _ _ h => h) (Or.inl ⟨by rfl, ?_⟩) ?_ ?_
                    rotate_left
                    · intro w'
                      go_simp
                      with_reducible rfl
                    rotate_left
                    · simp only [Act.put, List.setIfInBounds_toArray, List.set_cons_zero, List.set_cons_succ, i64_w, i32_w]
                      rfl
                    refine pure_ (i := 4) (N := some 125) (v := ?_) (a' := ?_) #[true, true, false, false, true, false, false, false, false, false, false, false] rfl rfl (by kernel_rfl) (fun _ _ _ h => h) (Or.inl ⟨by rfl, ?_⟩) ?_ ?_
                    rotate_left
                    · intro w'
                      go_simp
                      with_reducible rfl
                    rotate_left
                    · simp only [Act.put, List.setIfInBounds_toArray, List.set_cons_zero, List.set_cons_succ, i64_w, i32_w]
                      rfl
                    refine pure_ (i := 5) (N := some 126) (v := ?_) (a' := ?_) #[true, true, false, false, true, true, false, false, false, false, false, false] rfl rfl (by kernel_rfl) (fun _ _ _ h => h) (Or.inl ⟨by rfl, ?_⟩) ?_ ?_
                    rotate_left
                    · intro w'
                      go_simp
                      with_reducible rfl
                    rotate_left
                    · simp only [Act.put, List.setIfInBounds_toArray, List.set_cons_zero, List.set_cons_succ, i64_w, i32_w]
                      rfl
                    refine pure_ (i := 6) (N := some 127) (v := ?_) (a' := ?_) #[true, true, false, false, true, true, true, false, false, false, false, false] rfl rfl (by kernel_rfl) (fun _ _ _ h => h) (Or.inl ⟨by rfl, ?_⟩) ?_ ?_
                    rotate_left
                    · intro w'
                      go_simp
                      with_reducible rfl
                    rotate_left
                    · simp only [Act.put, List.setIfInBounds_toArray, List.set_cons_zero, List.set_cons_succ, i64_w, i32_w]
                      rfl
                    refine pure_ (i := 7) (N := some 128) (v := ?_) (a' := ?_) #[true, true, false, false, true, true, true, true, false, false, false, false] rfl rfl (by kernel_rfl) (fun _ _ _ h => h) (Or.inl ⟨by rfl, ?_⟩) ?_ ?_
                    rotate_left
                    · intro w'
                      go_simp
                      with_reducible rfl
                    rotate_left
                    · simp only [Act.put, List.setIfInBounds_toArray, List.set_cons_zero, List.set_cons_succ, i64_w, i32_w]
                      rfl
                    refine take_ (i := 2) (N := some 123) (v := ?_) (a' := ?_) #[true, true, true, false, true, true, true, true, false, false, false, false] rfl rfl (by kernel_rfl) (fun _ _ _ h => h) (Or.inl ⟨by rfl, ?_⟩) hHeld ?_ ?_
                    rotate_left
                    · rintro w' ⟨s0, s1⟩
                      go_simp
                      with_reducible rfl
                    rotate_left
                    · simp only [Act.put, List.setIfInBounds_toArray, List.set_cons_zero, List.set_cons_succ, i64_w, i32_w]
                      rfl
                    refine take_ (i := 8) (N := some 129) (v := ?_) (a' := ?_) #[true, true, true, false, true, true, true, true, true, false, false, false] rfl rfl (by kernel_rfl) (fun _ _ _ h => h) (Or.inl ⟨by rfl, ?_⟩) hHeld ?_ ?_
                    rotate_left
                    · rintro w' ⟨s0, s1⟩
                      go_simp
                      with_reducible rfl
                    rotate_left
                    · simp only [Act.put, List.setIfInBounds_toArray, List.set_cons_zero, List.set_cons_succ, i64_w, i32_w]
                      rfl
                    refine one_ (i := 3) (N := some 124) #[true, true, true, true, true, true, true, true, true, false, false, false] rfl rfl (by kernel_rfl) (by decide) (fun K hK => ?_)
                    refine goes_ Try.func17 (by kernel_rfl) rfl #[.int .u16 xv] (by rfl) rfl rfl (by simp only [List.map_toArray, List.map_cons, List.map_nil]; rfl) ?_
                    with_reducible refine (VX.out _).mono ?_
                    rintro e w31 ⟨rfl, ⟨nd, hd⟩⟩
                    refine ⟨_, rfl, ?_⟩
                    have hbz := drawn_below hd
                    clear hd
                    replace hx := (hbz.cell (World.block_lt_of_cell? _ _ hx)).trans hx
                    replace hy := (hbz.cell (World.block_lt_of_cell? _ _ hy)).trans hy
                    replace OE := Aside0.mk (OE.out.below hbz)
                    replace OG := Aside0.mk (OG.out.below hbz)
                    replace RQ := Aside0.mk (Kd.R_below RQ.out hbz)
                    replace K2 := Aside0.mk (blk_below K2.out hbz)
                    have HBn := Aside0.mk (below_step (by repeat (first | (with_reducible first | exact HB.out | apply below_alloc | apply pw_below_drewN | apply below_drew1) | exact HB.out)) hbz)
                    clear HB hbz
                    have HB := HBn
                    clear HBn
                    refine hK.out _ _ ⟨hx, hy⟩ (fun hHeld => ?_)
                    clear hK K
                    refine norm_ (a' := ?_) ?_ ?_
                    rotate_left
                    · show Act.put _ (some 124) _ = _
                      simp only [Act.put, List.setIfInBounds_toArray, List.set_cons_zero, List.set_cons_succ, i64_w, i32_w]
                      rfl
                    refine one_ (i := 9) (N := some 130) #[true, true, true, true, true, true, true, true, true, true, false, false] rfl rfl (by kernel_rfl) (by decide) (fun K hK => ?_)
                    refine goes_ Try.func17 (by kernel_rfl) rfl #[.int .u16 yv] (by rfl) rfl rfl (by simp only [List.map_toArray, List.map_cons, List.map_nil]; rfl) ?_
                    with_reducible refine (VY.out _).mono ?_
                    rintro e w32 ⟨rfl, ⟨nd, hd⟩⟩
                    refine ⟨_, rfl, ?_⟩
                    have hbz := drawn_below hd
                    clear hd
                    replace hx := (hbz.cell (World.block_lt_of_cell? _ _ hx)).trans hx
                    replace hy := (hbz.cell (World.block_lt_of_cell? _ _ hy)).trans hy
                    replace OE := Aside0.mk (OE.out.below hbz)
                    replace OG := Aside0.mk (OG.out.below hbz)
                    replace RQ := Aside0.mk (Kd.R_below RQ.out hbz)
                    replace K2 := Aside0.mk (blk_below K2.out hbz)
                    have HBn := Aside0.mk (below_step (by repeat (first | (with_reducible first | exact HB.out | apply below_alloc | apply pw_below_drewN | apply below_drew1) | exact HB.out)) hbz)
                    clear HB hbz
                    have HB := HBn
                    clear HBn
                    refine hK.out _ _ ⟨hx, hy⟩ (fun hHeld => ?_)
                    clear hK K
                    refine norm_ (a' := ?_) ?_ ?_
                    rotate_left
                    · show Act.put _ (some 130) _ = _
                      simp only [Act.put, List.setIfInBounds_toArray, List.set_cons_zero, List.set_cons_succ, i64_w, i32_w]
                      rfl
                    refine pure_ (i := 10) (N := some 19) (v := ?_) (a' := ?_) #[true, true, true, true, true, true, true, true, true, true, true, false] rfl rfl (by kernel_rfl) (fun _ _ _ h => h) (Or.inl ⟨by rfl, ?_⟩) ?_ ?_
                    rotate_left
                    · intro w'
                      go_simp
                      with_reducible rfl
                    rotate_left
                    · simp only [Act.put, List.setIfInBounds_toArray, List.set_cons_zero, List.set_cons_succ, i64_w, i32_w]
                      rfl
                    refine pure_ (i := 11) (N := some 20) (v := ?_) (a' := ?_) #[true, true, true, true, true, true, true, true, true, true, true, true] rfl rfl (by kernel_rfl) (fun _ _ _ h => h) (Or.inl ⟨by rfl, ?_⟩) ?_ ?_
                    rotate_left
                    · intro w'
                      go_simp
                      with_reducible rfl
                    rotate_left
                    · simp only [Act.put, List.setIfInBounds_toArray, List.set_cons_zero, List.set_cons_succ, i64_w, i32_w]
                      rfl
                    refine done_ (by kernel_rfl) ?_
            
                    obtain ⟨hgc, hgcf⟩ := OG.out.cell (20 + i) (of_eq_true q2) (of_eq_true q3)
                    rw [hgv.out] at hgc
                    clear hx hy hgcf VX VY
                    go_upto_region 30 with fail
                    refine start_ (n := 15) (S := fun w' => w'.cell? ⟨gg, (20 + i).toNat, none⟩ = some (.int .i64 gv)) (ds := []) #[false, false, false, false, false, false, false, false, false, false, false, false, false, false, false] (by kernel_rfl) rfl rfl (hgc) (fun hHeld => ?_)
                    replace OE : Aside0 (OW .u16 23 (w32.drew) w.heap.size ge 48 ke eL) := ⟨OE.out.drew⟩
                    replace OG : Aside0 (OW .i64 3 (w32.drew) w.heap.size gg 48 kg gL) := ⟨OG.out.drew⟩
                    replace RQ : Aside0 (Kd.R k26 26 (w32.drew) w.heap.size (fun _ => True) (.slice AQ Q.length cQ) Q) := ⟨Kd.R_drew RQ.out⟩
                    replace K2 : Aside0 ((World.heap (w32.drew))[b2]? = some (.cells (ws.map (Value.int .u16)).toArray 56 (0, 0))) := ⟨blk_drew K2.out⟩
                    replace HB : Aside0 (Below w.heap.size w (w32.drew)) := ⟨below_drew1 HB.out⟩
                    change w32.drew.cell? _ = _ at hgc
                    generalize w32.drew = wd at OE OG RQ K2 HB hgc hHeld ⊢
                    refine pure_ (i := 0) (N := some 131) (v := ?_) (a' := ?_) #[true, false, false, false, false, false, false, false, false, false, false, false, false, false, false] rfl rfl (by kernel_rfl) (fun _ _ _ h => h) (Or.inl ⟨by rfl, ?_⟩) ?_ ?_
                    rotate_left
                    · intro w'
                      go_simp
                      with_reducible rfl
                    rotate_left
                    · simp only [Act.put, List.setIfInBounds_toArray, List.set_cons_zero, List.set_cons_succ, i64_w, i32_w]
                      rfl
                    refine pure_ (i := 1) (N := some 132) (v := ?_) (a' := ?_) #[true, true, false, false, false, false, false, false, false, false, false, false, false, false, false] rfl rfl (by kernel_rfl) (fun _ _ _ h => h) (Or.inl ⟨by rfl, ?_⟩) ?_ ?_
                    rotate_left
                    · intro w'
                      go_simp
                      with_reducible rfl
                    rotate_left
                    · simp only [Act.put, List.setIfInBounds_toArray, List.set_cons_zero, List.set_cons_succ, i64_w, i32_w]
                      rfl
                    refine pure_ (i := 2) (N := some 133) (v := ?_) (a' := ?_) #[true, true, true, false, false, false, false, false, false, false, false, false, false, false, false] rfl rfl (by kernel_rfl) (fun _ _ _ h => h) (Or.inl ⟨by rfl, ?_⟩) ?_ ?_
                    rotate_left
                    · intro w'
                      go_simp
                      with_reducible rfl
                    rotate_left
                    · simp only [Act.put, List.setIfInBounds_toArray, List.set_cons_zero, List.set_cons_succ, i64_w, i32_w]
                      rfl
                    refine pure_ (i := 3) (N := some 134) (v := ?_) (a' := ?_) #[true, true, true, true, false, false, false, false, false, false, false, false, false, false, false] rfl rfl (by kernel_rfl) (fun _ _ _ h => h) (Or.inl ⟨by rfl, ?_⟩) ?_ ?_
                    rotate_left
                    · intro w'
                      go_simp
                      with_reducible rfl
                    rotate_left
                    · simp only [Act.put, List.setIfInBounds_toArray, List.set_cons_zero, List.set_cons_succ, i64_w, i32_w]
                      rfl
                    refine pure_ (i := 4) (N := some 135) (v := ?_) (a' := ?_) #[true, true, true, true, true, false, false, false, false, false, false, false, false, false, false] rfl rfl (by kernel_rfl) (fun _ _ _ h => h) (Or.inl ⟨by rfl, ?_⟩) ?_ ?_
                    rotate_left
                    · intro w'
                      go_simp
                      with_reducible rfl
                    rotate_left
                    · simp only [Act.put, List.setIfInBounds_toArray, List.set_cons_zero, List.set_cons_succ, i64_w, i32_w]
                      rfl
                    refine pure_ (i := 8) (N := some 139) (v := ?_) (a' := ?_) #[true, true, true, true, true, false, false, false, true, false, false, false, false, false, false] rfl rfl (by kernel_rfl) (fun _ _ _ h => h) (Or.inl ⟨by rfl, ?_⟩) ?_ ?_
                    rotate_left
                    · intro w'
                      go_simp
                      with_reducible rfl
                    rotate_left
                    · simp only [Act.put, List.setIfInBounds_toArray, List.set_cons_zero, List.set_cons_succ, i64_w, i32_w]
                      rfl
                    refine pure_ (i := 9) (N := some 140) (v := ?_) (a' := ?_) #[true, true, true, true, true, false, false, false, true, true, false, false, false, false, false] rfl rfl (by kernel_rfl) (fun _ _ _ h => h) (Or.inl ⟨by rfl, ?_⟩) ?_ ?_
                    rotate_left
                    · intro w'
                      go_simp
                      with_reducible rfl
                    rotate_left
                    · simp only [Act.put, List.setIfInBounds_toArray, List.set_cons_zero, List.set_cons_succ, i64_w, i32_w]
                      rfl
                    refine pure_ (i := 10) (N := some 141) (v := ?_) (a' := ?_) #[true, true, true, true, true, false, false, false, true, true, true, false, false, false, false] rfl rfl (by kernel_rfl) (fun _ _ _ h => h) (Or.inl ⟨by rfl, ?_⟩) ?_ ?_
                    rotate_left
                    · intro w'
                      go_simp
                      with_reducible rfl
                    rotate_left
                    · simp only [Act.put, List.setIfInBounds_toArray, List.set_cons_zero, List.set_cons_succ, i64_w, i32_w]
                      rfl
                    refine pure_ (i := 11) (N := some 142) (v := ?_) (a' := ?_) #[true, true, true, true, true, false, false, false, true, true, true, true, false, false, false] rfl rfl (by kernel_rfl) (fun _ _ _ h => h) (Or.inl ⟨by rfl, ?_⟩) ?_ ?_
                    rotate_left
                    · intro w'
                      go_simp
                      with_reducible rfl
                    rotate_left
                    · simp only [Act.put, List.setIfInBounds_toArray, List.set_cons_zero, List.set_cons_succ, i64_w, i32_w]
                      rfl
                    refine take_ (i := 5) (N := some 136) (v := ?_) (a' := ?_) #[true, true, true, true, true, true, false, false, true, true, true, true, false, false, false] rfl rfl (by kernel_rfl) (fun _ _ _ h => h) (Or.inl ⟨by rfl, ?_⟩) hHeld ?_ ?_
                    rotate_left
                    · intro w' s0
                      go_simp
                      with_reducible rfl
                    rotate_left
                    · simp only [Act.put, List.setIfInBounds_toArray, List.set_cons_zero, List.set_cons_succ, i64_w, i32_w]
                      rfl
                    refine pure_ (i := 6) (N := some 137) (v := ?_) (a' := ?_) #[true, true, true, true, true, true, true, false, true, true, true, true, false, false, false] rfl rfl (by kernel_rfl) (fun _ _ _ h => h) (Or.inl ⟨by rfl, ?_⟩) ?_ ?_
                    rotate_left
                    · intro w'
                      go_simp
                      with_reducible rfl
                    rotate_left
                    · simp only [Act.put, List.setIfInBounds_toArray, List.set_cons_zero, List.set_cons_succ, i64_w, i32_w]
                      rfl
                    refine pure_ (i := 7) (N := some 138) (v := ?_) (a' := ?_) #[true, true, true, true, true, true, true, true, true, true, true, true, false, false, false] rfl rfl (by kernel_rfl) (fun _ _ _ h => h) (Or.inl ⟨by rfl, ?_⟩) ?_ ?_
                    rotate_left
                    · intro w'
                      go_simp
                      with_reducible rfl
                    rotate_left
                    · simp only [Act.put, List.setIfInBounds_toArray, List.set_cons_zero, List.set_cons_succ, i64_w, i32_w]
                      rfl
                    refine one_ (i := 12) (N := some 143) #[true, true, true, true, true, true, true, true, true, true, true, true, true, false, false] rfl rfl (by kernel_rfl) (by decide) (fun K hK => ?_)
                    refine goes_ Try.func25 (by kernel_rfl) rfl #[.slice AQ Q.length cQ, .int .i64 (wrap64 (20 + i))] (by rfl) rfl rfl (by simp only [List.map_toArray, List.map_cons, List.map_nil]; rfl) ?_
                    with_reducible refine (TT.out _ (Kd.R_reads' RQ.out).2.2).mono ?_
                    rintro e w33 ⟨rfl, hbz⟩
                    refine ⟨_, rfl, ?_⟩
                    replace hgc := (hbz.cell (World.block_lt_of_cell? _ _ hgc)).trans hgc
                    replace OE := Aside0.mk (OE.out.below hbz)
                    replace OG := Aside0.mk (OG.out.below hbz)
                    replace RQ := Aside0.mk (Kd.R_below RQ.out hbz)
                    replace K2 := Aside0.mk (blk_below K2.out hbz)
                    have HBn := Aside0.mk (below_step (by repeat (first | (with_reducible first | exact HB.out | apply below_alloc | apply pw_below_drewN | apply below_drew1) | exact HB.out)) hbz)
                    clear HB hbz
                    have HB := HBn
                    clear HBn
                    refine hK.out _ _ (hgc) (fun hHeld => ?_)
                    clear hK K
                    refine norm_ (a' := ?_) ?_ ?_
                    rotate_left
                    · show Act.put _ (some 143) _ = _
                      simp only [Act.put, List.setIfInBounds_toArray, List.set_cons_zero, List.set_cons_succ, i64_w, i32_w]
                      rfl
                    refine pure_ (i := 13) (N := some 144) (v := ?_) (a' := ?_) #[true, true, true, true, true, true, true, true, true, true, true, true, true, true, false] rfl rfl (by kernel_rfl) (fun _ _ _ h => h) (Or.inl ⟨by rfl, ?_⟩) ?_ ?_
                    rotate_left
                    · intro w'
                      go_simp
                      with_reducible rfl
                    rotate_left
                    · simp only [Act.put, List.setIfInBounds_toArray, List.set_cons_zero, List.set_cons_succ, i64_w, i32_w]
                      rfl
                    refine pure_ (i := 14) (N := some 145) (v := ?_) (a' := ?_) #[true, true, true, true, true, true, true, true, true, true, true, true, true, true, true] rfl rfl (by kernel_rfl) (fun _ _ _ h => h) (Or.inl ⟨by rfl, ?_⟩) ?_ ?_
                    rotate_left
                    · intro w'
                      go_simp
                      with_reducible rfl
                    rotate_left
                    · simp only [Act.put, List.setIfInBounds_toArray, List.set_cons_zero, List.set_cons_succ, i64_w, i32_w]
                      rfl
                    refine done_ (by kernel_rfl) ?_
            
                    go_wp2
                    go_roundg g
                    case measure => omega
                    case rel => exact ⟨i + 1, by simp [wq1], ⟨(g28 hg.out).1, (g28 hg.out).2⟩, OE, OG, RQ, K2, HB⟩
                  · have b5 : decide (i < 28) = false := decide_eq_false hlt
                    clear hg hlt
                    go_wp2_with (first | (go_at_call 16; (with_reducible refine at_args #[] ?_); (with_reducible refine (works_c _).mono ?_); rintro e w' ⟨rfl, hbw⟩; have HBn := Aside0.mk (below_step (by repeat (first | (with_reducible first | exact HB.out | apply below_alloc | apply pw_below_drewN | apply below_drew1) | exact HB.out)) hbw); clear HB hbw; have HB := HBn; clear HBn))
                    go_ret
                    exact ⟨rfl, by repeat (first | (with_reducible first | exact HB.out | apply below_alloc | apply pw_below_drewN | apply below_drew1) | exact HB.out)⟩
      · have b0 : decide ((i : Int) < (pl.length : Int)) = false := decide_eq_false (by omega)
        have b0' : decide (i < pl.length) = false := decide_eq_false hl1
        clear hlt hl1
        as_aux_lemma =>
        have hV := qcs_valid pl i
        have hLQ := Aside0.mk (show (qcs pl i).length ≤ 64 by rw [qcs_len pl i hg.out.2]; have := hg.out.1; omega)
        clear hY hg
        generalize qcs pl i = Q at RQ hV hLQ
        have hV2 := Aside0.mk hV
        clear hV
        obtain ⟨AQ, cQ, rfl⟩ := Kd.R_slice RQ.out
        go_wp2_with (first | (at_make; refine Kd.R_make (Kd.int .u16) (w0 := w) w.heap.size 23 rfl (N := 53) rfl 44 (.const (.int .i64 48)) (.const (.int .i64 48)) rfl 48 rfl rfl Try.underlying44 (.int .u16 0) 2 infoWord rfl (by decide) (by decide) 0 (ok := fun _ => True) (okp := fun _ => True) ?hzeroe (fun _ _ => trivial) trivial (by decide) ?hle ?hHBe ?hbasee ?_; (case hzeroe => rfl); (case hle => decide); (case hHBe => exact (by repeat (first | (with_reducible first | exact HB.out | apply below_alloc | apply pw_below_drewN | apply below_drew1) | exact HB.out))); (case hbasee => exact below_size (by repeat (first | (with_reducible first | exact HB.out | apply below_alloc | apply pw_below_drewN | apply below_drew1) | exact HB.out))); intro v6 w6e hR hb6 hg hat; have hbW := pw_below_grown (Below.refl _ _) none (Nat.le_refl _) hg (fun k hk => by cases hk); obtain ⟨ge, ke, rfl, Oe, hfe⟩ := OW.of hR rfl (by decide) hat; replace Oe := Aside0.mk Oe; skip; replace RQ := Aside0.mk (Kd.R_below RQ.out hbW); replace K2 := Aside0.mk (blk_below K2.out hbW); clear HB hR hg hat hbW; have HB := Aside0.mk hb6; clear hb6))
        have ne2 : Aside0 (b2 ≠ ge) := ⟨by obtain ⟨ce, he⟩ := Oe.out.2.2.2.2.1; exact blk_ne K2.out he (by decide)⟩
        go_loopg [11] 28 (fun g v11 w' => ∃ (i : Int) (eL : List Int), v11 = .int .i64 i ∧ Aside0 (0 ≤ i ∧ i + g = 28) ∧ Aside0 (ST2 ws i eL) ∧ Aside0 (OW .u16 23 (w') w.heap.size ge 48 ke eL) ∧ Aside0 (Kd.R k26 26 (w') w.heap.size (fun _ => True) (.slice AQ Q.length cQ) Q) ∧ Aside0 ((World.heap (w'))[b2]? = some (.cells (ws.map (Value.int .u16)).toArray 56 (0, 0))) ∧ Aside0 (Below w.heap.size w (w')))
        case atStart => exact ⟨0, _, rfl, ⟨by decide, by decide⟩, ⟨ST2_start ws⟩, Oe, RQ, K2, HB⟩
        case round =>
          as_aux_lemma =>
          clear Oe RQ K2 HB
          obtain ⟨i, eL, rfl, hg, hS, OE, RQ, K2, HB⟩ := hrel
          by_cases hlt : i < 28
          · obtain ⟨g, rfl⟩ : ∃ g, gk = g + 1 := ⟨gk - 1, by have := hg.out; omega⟩
            have b3 : decide (i < 28) = true := decide_eq_true hlt
            have i0 := hg.out.1
            have hxr := ws_rng hW.out i i0 (by have := hws.out; omega)
            have hx : wr.cell? ⟨b2, i.toNat, none⟩ = some (.int .u16 (rd ws i)) := (blk_cell K2.out i.toNat).trans (ws_get ws i i0 (by have := hws.out; omega))
            have hS2 := Aside0.mk (ST2_next hS.out OE.out.1 i0 hlt)
            obtain ⟨hc, hf⟩ := OE.out.cell (20 + i) (by omega) (by omega)
            have q0 := eq_true i0
            have q1 := eq_true hlt
            have q2 := eq_true (show 0 ≤ 20 + i by omega)
            have q3 := eq_true (show 20 + i < 48 by omega)
            have t1 : Int.tmod (rd ws i) 32768 = rd ws i % 32768 := Int.tmod_eq_emod_of_nonneg hxr.1
            have ww := w28 i0 hlt
            have wq1 := ww.1
            have wq2 := ww.2
            clear hS ww hxr
            go_wp2
            go_roundg g
            case measure => omega
            case rel => exact ⟨i + 1, _, by simp [wq1], ⟨(g28 hg.out).1, (g28 hg.out).2⟩, hS2, ⟨OE.out.put (20 + i) _⟩, ⟨OE.out.R_over RQ.out (by decide) _ _⟩, ⟨blk_far K2.out ne2.out _⟩, ⟨below_set HB.out OE.out.2.2.1⟩⟩
          · have b3 : decide (i < 28) = false := decide_eq_false hlt
            have hC := Aside0.mk (show CNT (fun j => rd ws (j - 20)) Q Q eL (List.replicate (Int.toNat 48) 0) from CNT_start hV2.out.1 hV2.out.2 hLQ.out (fun j h1 h2 => hS.out.1 j h1 (by have := hg.out; omega)) hS.out.2)
            clear hg hS hlt hV2
            go_wp2_with (first | (at_make; refine Kd.R_make (Kd.int .i64) (w0 := w) w.heap.size 3 rfl (N := 66) rfl 57 (.const (.int .i64 48)) (.const (.int .i64 48)) rfl 48 rfl rfl Try.underlying57 (.int .i64 0) 8 infoInt3 rfl (by decide) (by decide) 0 (ok := fun _ => True) (okp := fun _ => True) ?hzerog (fun _ _ => trivial) trivial (by decide) ?hlg ?hHBg ?hbaseg ?_; (case hzerog => rfl); (case hlg => decide); (case hHBg => exact (by repeat (first | (with_reducible first | exact HB.out | apply below_alloc | apply pw_below_drewN | apply below_drew1) | exact HB.out))); (case hbaseg => exact below_size (by repeat (first | (with_reducible first | exact HB.out | apply below_alloc | apply pw_below_drewN | apply below_drew1) | exact HB.out))); intro v6 w6g hR hb6 hg hat; have hbW := pw_below_grown (Below.refl _ _) none (Nat.le_refl _) hg (fun k hk => by cases hk); obtain ⟨gg, kg, rfl, Og, hfg⟩ := OW.of hR rfl (by decide) hat; replace Og := Aside0.mk Og; have hne : ge ≠ gg := (by have h1 := OE.out.2.2.2.1; have h2 := hfg; omega); replace OE := Aside0.mk (OE.out.below hbW); replace RQ := Aside0.mk (Kd.R_below RQ.out hbW); replace K2 := Aside0.mk (blk_below K2.out hbW); clear HB hR hg hat hbW; have HB := Aside0.mk hb6; clear hb6))
            go_loopg [13] Q.length (fun g v13 w' => ∃ (A : Option Addr) (n c : Nat) (l : List S26) (eL gL : List Int), v13 = .slice A n c ∧ Aside0 (l.length = n ∧ g = n ∧ n ≤ 64) ∧ Aside0 (CNT (fun j => rd ws (j - 20)) Q l eL gL) ∧ Aside0 (OW .u16 23 (w') w.heap.size ge 48 ke eL) ∧ Aside0 (OW .i64 3 (w') w.heap.size gg 48 kg gL) ∧ Aside0 (Kd.R k26 26 (w') w.heap.size (fun _ => True) (.slice A n c) l) ∧ Aside0 (Kd.R k26 26 (w') w.heap.size (fun _ => True) (.slice AQ Q.length cQ) Q) ∧ Aside0 ((World.heap (w'))[b2]? = some (.cells (ws.map (Value.int .u16)).toArray 56 (0, 0))) ∧ Aside0 (Below w.heap.size w (w')))
            case atStart => exact ⟨AQ, Q.length, cQ, Q, eL, _, rfl, ⟨rfl, rfl, hLQ.out⟩, hC, OE, Og, RQ, RQ, K2, HB⟩
            case round =>
              as_aux_lemma =>
              clear OE Og RQ K2 HB hC
              obtain ⟨A, n, c, l, eL, gL, rfl, hn, hI, OE, OG, RL, RQ, K2, HB⟩ := hrel
              by_cases hp : 0 < n
              · as_aux_lemma =>
                have IN := CNT_next hI.out (by have := hn.out; omega) OE.out.1 OG.out.1
                have hr := hI.out.2.2.2.1
                have hsb := hI.out.2.2.2.2
                have hc := (Kd.R_reads' RL.out).2.1
                have RCx := Aside0.mk (show Kd.C k26 wr A n l by have h := (Kd.R_reads' RL.out).2.2; rw [hn.out.1] at h; exact h)
                have SV := Lib.hid fun (w : World) h hE => Serve_c A c l (some ⟨ge, 0, none⟩) ke 48 eL w n hn.out.1 OE.out.1 h hc (by have := hn.out; omega) hE (fun i i0 i1 => hr i i0 (by have := OE.out.1; omega))
                rw [IN.1] at SV
                obtain ⟨g, rfl⟩ : ∃ g, gk = g + 1 := ⟨gk - 1, by have := hn.out; omega⟩
                generalize sA l eL = cA at SV IN
                generalize sW l eL = cW at SV IN
                generalize sS l eL = sg at SV IN
                generalize sL l eL = l' at SV IN
                obtain ⟨n', hn'⟩ : ∃ n', l'.length = n' := ⟨_, rfl⟩
                have hA0 := Aside0.mk (show 0 ≤ cA by have := IN.2.1; omega)
                have hA1 := Aside0.mk (show cA < 48 by have := IN.2.1; omega)
                have hnn := Aside0.mk (show n' + 1 = n ∧ n' = g by have := hn.out; have := IN.2.2.1; omega)
                have b4 : decide (0 < (n : Int)) = true := decide_eq_true (by omega)
                have b4' : decide (0 < n) = true := decide_eq_true hp
                have t1 : decide (cA < 20) = false := decide_eq_false (by have := IN.2.1; omega)
                have t2 : decide (47 < cA) = false := decide_eq_false (by have := IN.2.1; omega)
                have t3 : wrap64 ((n : Int) - 1) = (n' : Int) := by rw [w64 (by omega) (by have := hn.out; omega)]; have := hnn.out; omega
                have t4 : ((n' : Int) != (n' : Int)) = false := bne_self_eq_false _
                have hIN := Aside0.mk IN.2.2.2.2
                have wqs := sig64 (hsb cA hA0.out hA1.out) IN.2.2.2.1
                have h64 := Aside0.mk (show n' ≤ 64 by have := hn.out; have := hnn.out; omega)
                replace hn' := Lib.hid hn'
                have q5 := eq_true hA0.out
                have q6 := eq_true hA1.out
                clear IN hr hc hp hI hsb
                go_upto_region 21 with (go_at_call 19; (with_reducible refine at_args #[.slice A n c, .slice (some ⟨ge, 0, none⟩) 48 ke] ?_); (with_reducible refine (SV.out _ RCx.out OE.out.C).mono ?_); rintro e w12 ⟨vs, rfl, hRs, hbz⟩; obtain ⟨As, cs, rfl⟩ := Kd.R_slice hRs; rw [hn'.out] at hRs ⊢; have RL2 := Aside0.mk (Kd.R_lower hRs (below_size HB.out)); clear RL hRs RCx; have RL := RL2; clear RL2; replace OE := Aside0.mk (OE.out.below hbz); replace OG := Aside0.mk (OG.out.below hbz); replace RQ := Aside0.mk (Kd.R_below RQ.out hbz); replace K2 := Aside0.mk (blk_below K2.out hbz); have HBn := Aside0.mk (below_step (by repeat (first | (with_reducible first | exact HB.out | apply below_alloc | apply pw_below_drewN | apply below_drew1) | exact HB.out)) hbz); clear HB hbz; have HB := HBn; clear HBn)
                clear SV
                have z0 : (w12.alloc (.cells #[.int .i64 cA, .int .u16 cW] 46)).cell? ⟨w12.heap.size, 0, none⟩ = some (.int .i64 cA) := by rw [World.cell?_alloc_mark]; rfl
                have z1 : (w12.alloc (.cells #[.int .i64 cA, .int .u16 cW] 46)).cell? ⟨w12.heap.size, 1, none⟩ = some (.int .u16 cW) := by rw [World.cell?_alloc_mark]; rfl
                have hnb := Aside0.mk (show ge ≠ w12.heap.size by have := OE.out.2.2.2.1; omega)
                have hnb2 := Aside0.mk (show gg ≠ w12.heap.size by have := OG.out.2.2.2.1; omega)
                have n_OE : Aside0 (OW .u16 23 ((w12.alloc (.cells #[.int .i64 cA, .int .u16 cW] 46))) w.heap.size ge 48 ke eL) := ⟨OE.out.alloc _⟩
                have n_OG : Aside0 (OW .i64 3 ((w12.alloc (.cells #[.int .i64 cA, .int .u16 cW] 46))) w.heap.size gg 48 kg gL) := ⟨OG.out.alloc _⟩
                have n_RL : Aside0 (Kd.R k26 26 ((w12.alloc (.cells #[.int .i64 cA, .int .u16 cW] 46))) w.heap.size (fun _ => True) (.slice As n' cs) l') := ⟨Kd.R_alloc RL.out _⟩
                have n_RQ : Aside0 (Kd.R k26 26 ((w12.alloc (.cells #[.int .i64 cA, .int .u16 cW] 46))) w.heap.size (fun _ => True) (.slice AQ Q.length cQ) Q) := ⟨Kd.R_alloc RQ.out _⟩
                have n_K2 : Aside0 ((World.heap ((w12.alloc (.cells #[.int .i64 cA, .int .u16 cW] 46))))[b2]? = some (.cells (ws.map (Value.int .u16)).toArray 56 (0, 0))) := ⟨blk_alloc K2.out _⟩
                have n_HB : Aside0 (Below w.heap.size w ((w12.alloc (.cells #[.int .i64 cA, .int .u16 cW] 46)))) := ⟨below_alloc HB.out _⟩
                clear OE OG RL RQ K2 HB
                generalize (w12.alloc (.cells #[.int .i64 cA, .int .u16 cW] 46)) = wb at n_OE n_OG n_RL n_RQ n_K2 n_HB z0 z1 ⊢
                have OE := n_OE
                have OG := n_OG
                have RL := n_RL
                have RQ := n_RQ
                have K2 := n_K2
                have HB := n_HB
                clear n_OE n_OG n_RL n_RQ n_K2 n_HB
                obtain ⟨hb_, hhb⟩ : ∃ x, w12.heap.size = x := ⟨_, rfl⟩
                rw [hhb] at z0 z1 hnb hnb2 ⊢
                clear hhb
                go_upto_region 23 with fail
                obtain ⟨se, sf⟩ := OE.out.cell cA hA0.out hA1.out
                go_upto_region 24 with fail
                replace z0 := (World.cell?_setCell_far wb ⟨ge, cA.toNat, none⟩ ⟨hb_, 0, none⟩ (.int .u16 cW) hnb.out).trans z0
                clear z1 se sf
                have n_OE : Aside0 (OW .u16 23 ((wb.setCell ⟨ge, cA.toNat, none⟩ (.int .u16 cW))) w.heap.size ge 48 ke (eL.set cA.toNat cW)) := ⟨OE.out.put cA cW⟩
                have n_OG : Aside0 (OW .i64 3 ((wb.setCell ⟨ge, cA.toNat, none⟩ (.int .u16 cW))) w.heap.size gg 48 kg gL) := ⟨OG.out.far hne _ _⟩
                have n_RL : Aside0 (Kd.R k26 26 ((wb.setCell ⟨ge, cA.toNat, none⟩ (.int .u16 cW))) w.heap.size (fun _ => True) (.slice As n' cs) l') := ⟨OE.out.R_over RL.out (by decide) _ _⟩
                have n_RQ : Aside0 (Kd.R k26 26 ((wb.setCell ⟨ge, cA.toNat, none⟩ (.int .u16 cW))) w.heap.size (fun _ => True) (.slice AQ Q.length cQ) Q) := ⟨OE.out.R_over RQ.out (by decide) _ _⟩
                have n_K2 : Aside0 ((World.heap ((wb.setCell ⟨ge, cA.toNat, none⟩ (.int .u16 cW))))[b2]? = some (.cells (ws.map (Value.int .u16)).toArray 56 (0, 0))) := ⟨blk_far K2.out ne2.out _⟩
                have n_HB : Aside0 (Below w.heap.size w ((wb.setCell ⟨ge, cA.toNat, none⟩ (.int .u16 cW)))) := ⟨below_set HB.out OE.out.2.2.1⟩
                clear OE OG RL RQ K2 HB
                generalize (wb.setCell ⟨ge, cA.toNat, none⟩ (.int .u16 cW)) = wc at n_OE n_OG n_RL n_RQ n_K2 n_HB z0 ⊢
                have OE := n_OE
                have OG := n_OG
                have RL := n_RL
                have RQ := n_RQ
                have K2 := n_K2
                have HB := n_HB
                clear n_OE n_OG n_RL n_RQ n_K2 n_HB
                obtain ⟨hgc, hgf⟩ := OG.out.cell cA hA0.out hA1.out
                obtain ⟨gv, hgv⟩ : ∃ x, rd gL cA = x := ⟨_, rfl⟩
                rw [hgv] at hgc hIN wqs
                clear hgv
                refine start_ (n := 12) (S := fun w' => w'.cell? ⟨hb_, 0, none⟩ = some (.int .i64 cA) ∧ w'.cell? ⟨gg, cA.toNat, none⟩ = some (.int .i64 gv)) (ds := [11]) #[false, false, false, false, false, false, false, false, false, false, false, false] (by kernel_rfl) rfl rfl ⟨z0, hgc⟩ (fun hHeld => ?_)
                replace OE : Aside0 (OW .u16 23 (wc.drew) w.heap.size ge 48 ke (eL.set cA.toNat cW)) := ⟨OE.out.drew⟩
                replace OG : Aside0 (OW .i64 3 (wc.drew) w.heap.size gg 48 kg gL) := ⟨OG.out.drew⟩
                replace RL : Aside0 (Kd.R k26 26 (wc.drew) w.heap.size (fun _ => True) (.slice As n' cs) l') := ⟨Kd.R_drew RL.out⟩
                replace RQ : Aside0 (Kd.R k26 26 (wc.drew) w.heap.size (fun _ => True) (.slice AQ Q.length cQ) Q) := ⟨Kd.R_drew RQ.out⟩
                replace K2 : Aside0 ((World.heap (wc.drew))[b2]? = some (.cells (ws.map (Value.int .u16)).toArray 56 (0, 0))) := ⟨blk_drew K2.out⟩
                replace HB : Aside0 (Below w.heap.size w (wc.drew)) := ⟨below_drew1 HB.out⟩
                change wc.drew.cell? _ = _ at z0 hgc
                change wc.drew.frozen? _ = _ at hgf
                generalize wc.drew = wd at OE OG RL RQ K2 HB z0 hgc hgf hHeld ⊢
                refine pure_ (i := 0) (N := some 105) (v := ?_) (a' := ?_) #[true, false, false, false, false, false, false, false, false, false, false, false] rfl rfl (by kernel_rfl) (fun _ _ _ h => h) (Or.inl ⟨by rfl, ?_⟩) ?_ ?_
                rotate_left
                · intro w'
                  go_simp
                  with_reducible rfl
                rotate_left
                · simp only [Act.put, List.setIfInBounds_toArray, List.set_cons_zero, List.set_cons_succ, i64_w, i32_w]
                  rfl
                refine pure_ (i := 1) (N := some 106) (v := ?_) (a' := ?_) #[true, true, false, false, false, false, false, false, false, false, false, false] rfl rfl (by kernel_rfl) (fun _ _ _ h => h) (Or.inl ⟨by rfl, ?_⟩) ?_ ?_
                rotate_left
                · intro w'
                  go_simp
                  with_reducible rfl
                rotate_left
                · simp only [Act.put, List.setIfInBounds_toArray, List.set_cons_zero, List.set_cons_succ, i64_w, i32_w]
                  rfl
                refine pure_ (i := 3) (N := some 108) (v := ?_) (a' := ?_) #[true, true, false, true, false, false, false, false, false, false, false, false] rfl rfl (by kernel_rfl) (fun _ _ _ h => h) (Or.inl ⟨by rfl, ?_⟩) ?_ ?_
                rotate_left
                · intro w'
                  go_simp
                  with_reducible rfl
                rotate_left
                · simp only [Act.put, List.setIfInBounds_toArray, List.set_cons_zero, List.set_cons_succ, i64_w, i32_w]
                  rfl
                refine pure_ (i := 4) (N := some 109) (v := ?_) (a' := ?_) #[true, true, false, true, true, false, false, false, false, false, false, false] rfl rfl (by kernel_rfl) (fun _ _ _ h => h) (Or.inl ⟨by rfl, ?_⟩) ?_ ?_
                rotate_left
                · intro w'
                  go_simp
                  with_reducible rfl
                rotate_left
                · simp only [Act.put, List.setIfInBounds_toArray, List.set_cons_zero, List.set_cons_succ, i64_w, i32_w]
                  rfl
                refine pure_ (i := 8) (N := some 113) (v := ?_) (a' := ?_) #[true, true, false, true, true, false, false, false, true, false, false, false] rfl rfl (by kernel_rfl) (fun _ _ _ h => h) (Or.inl ⟨by rfl, ?_⟩) ?_ ?_
                rotate_left
                · intro w'
                  go_simp
                  with_reducible rfl
                rotate_left
                · simp only [Act.put, List.setIfInBounds_toArray, List.set_cons_zero, List.set_cons_succ, i64_w, i32_w]
                  rfl
                refine take_ (i := 2) (N := some 107) (v := ?_) (a' := ?_) #[true, true, true, true, true, false, false, false, true, false, false, false] rfl rfl (by kernel_rfl) (fun _ _ _ h => h) (Or.inl ⟨by rfl, ?_⟩) hHeld ?_ ?_
                rotate_left
                · rintro w' ⟨s0, s1⟩
                  go_simp
                  with_reducible rfl
                rotate_left
                · simp only [Act.put, List.setIfInBounds_toArray, List.set_cons_zero, List.set_cons_succ, i64_w, i32_w]
                  rfl
                refine take_ (i := 5) (N := some 110) (v := ?_) (a' := ?_) #[true, true, true, true, true, true, false, false, true, false, false, false] rfl rfl (by kernel_rfl) (fun _ _ _ h => h) (Or.inl ⟨by rfl, ?_⟩) hHeld ?_ ?_
                rotate_left
                · rintro w' ⟨s0, s1⟩
                  go_simp
                  with_reducible rfl
                rotate_left
                · simp only [Act.put, List.setIfInBounds_toArray, List.set_cons_zero, List.set_cons_succ, i64_w, i32_w]
                  rfl
                refine pure_ (i := 6) (N := some 111) (v := ?_) (a' := ?_) #[true, true, true, true, true, true, true, false, true, false, false, false] rfl rfl (by kernel_rfl) (fun _ _ _ h => h) (Or.inl ⟨by rfl, ?_⟩) ?_ ?_
                rotate_left
                · intro w'
                  go_simp
                  with_reducible rfl
                rotate_left
                · simp only [Act.put, List.setIfInBounds_toArray, List.set_cons_zero, List.set_cons_succ, i64_w, i32_w]
                  rfl
                refine take_ (i := 7) (N := some 112) (v := ?_) (a' := ?_) #[true, true, true, true, true, true, true, true, true, false, false, false] rfl rfl (by kernel_rfl) (fun _ _ _ h => h) (Or.inl ⟨by rfl, ?_⟩) hHeld ?_ ?_
                rotate_left
                · rintro w' ⟨s0, s1⟩
                  go_simp
                  with_reducible rfl
                rotate_left
                · simp only [Act.put, List.setIfInBounds_toArray, List.set_cons_zero, List.set_cons_succ, i64_w, i32_w]
                  rfl
                refine pure_ (i := 9) (N := some 114) (v := ?_) (a' := ?_) #[true, true, true, true, true, true, true, true, true, true, false, false] rfl rfl (by kernel_rfl) (fun _ _ _ h => h) (Or.inl ⟨by rfl, ?_⟩) ?_ ?_
                rotate_left
                · intro w'
                  go_simp
                  with_reducible rfl
                rotate_left
                · simp only [Act.put, List.setIfInBounds_toArray, List.set_cons_zero, List.set_cons_succ, i64_w, i32_w]
                  rfl
                refine pure_ (i := 10) (N := some 115) (v := ?_) (a' := ?_) #[true, true, true, true, true, true, true, true, true, true, true, false] rfl rfl (by kernel_rfl) (fun _ _ _ h => h) (Or.inl ⟨by rfl, ?_⟩) ?_ ?_
                rotate_left
                · intro w'
                  go_simp
                  with_reducible rfl
                rotate_left
                · simp only [Act.put, List.setIfInBounds_toArray, List.set_cons_zero, List.set_cons_succ, i64_w, i32_w]
                  rfl
                refine last_ (i := 11) (N := none) #[true, true, true, true, true, true, true, true, true, true, true, true] rfl rfl (by kernel_rfl) (by decide) (fun K hK => ?_)
                refine skip_ (w1 := ?_) (by rfl) rfl ?_ ?_
                rotate_left
                · go_simp
                  rfl
                refine hK.out _ _ ?_
                clear hK K
                refine done_ (by kernel_rfl) ?_
        
                go_wp2
                go_roundg g
                case measure => omega
                case rel => exact ⟨As, n', cs, l', _, _, rfl, ⟨hn'.out, hnn.out.2.symm, h64.out⟩, hIN, ⟨OE.out.far (fun e => hne e.symm) _ _⟩, ⟨OG.out.put cA (gv + sg)⟩, ⟨OG.out.R_over RL.out (by decide) _ _⟩, ⟨OG.out.R_over RQ.out (by decide) _ _⟩, ⟨blk_far K2.out (by obtain ⟨ce, he⟩ := OG.out.2.2.2.2.1; exact blk_ne K2.out he (by decide)) _⟩, ⟨below_set HB.out OG.out.2.2.1⟩⟩
              · as_aux_lemma =>
                have b4 : decide (0 < (n : Int)) = false := decide_eq_false (by omega)
                have b4' : decide (0 < n) = false := decide_eq_false hp
                have hEN := Aside0.mk (fun j h1 h2 => CNT_end hI.out (by have := hn.out; omega) j h1 h2)
                have hRG := Aside0.mk hI.out.2.2.2.1
                clear hn hI hp RL
                go_wp2
                go_loopg [18] 28 (fun g v18 w' => ∃ i : Int, v18 = .int .i64 i ∧ Aside0 (0 ≤ i ∧ i + g = 28) ∧ Aside0 (OW .u16 23 (w') w.heap.size ge 48 ke eL) ∧ Aside0 (OW .i64 3 (w') w.heap.size gg 48 kg gL) ∧ Aside0 (Kd.R k26 26 (w') w.heap.size (fun _ => True) (.slice AQ Q.length cQ) Q) ∧ Aside0 ((World.heap (w'))[b2]? = some (.cells (ws.map (Value.int .u16)).toArray 56 (0, 0))) ∧ Aside0 (Below w.heap.size w (w')))
                case atStart => exact ⟨0, rfl, ⟨by decide, by decide⟩, OE, OG, RQ, K2, HB⟩
                case round =>
                  clear OE OG RQ K2 HB
                  obtain ⟨i, rfl, hg, OE, OG, RQ, K2, HB⟩ := hrel
                  by_cases hlt : i < 28
                  · as_aux_lemma =>
                    obtain ⟨g, rfl⟩ : ∃ g, gk = g + 1 := ⟨gk - 1, by have := hg.out; omega⟩
                    have b5 : decide (i < 28) = true := decide_eq_true hlt
                    have i0 := hg.out.1
                    have hxr := ws_rng hW.out i i0 (by have := hws.out; omega)
                    have hyr := hRG.out (20 + i) (by omega) (by omega)
                    have hx : wr.cell? ⟨b2, i.toNat, none⟩ = some (.int .u16 (rd ws i)) := (blk_cell K2.out i.toNat).trans (ws_get ws i i0 (by have := hws.out; omega))
                    have hE := hEN.out (20 + i) (by omega) (by omega)
                    rw [show 20 + i - 20 = i by omega] at hE
                    obtain ⟨hy, hyf⟩ := OE.out.cell (20 + i) (by omega) (by omega)
                    have TT := Lib.hid (show ∀ (w : World), Kd.C k26 w AQ Q.length Q → Calls Try.prog 25 #[.slice AQ Q.length cQ, .int .i64 (wrap64 (20 + i))] w (fun e w' => e = .returned (.int .i64 (tot (20 + i) Q)) ∧ Below w.heap.size w w') from fun w h => by rw [(w28 i0 hlt).2]; exact Total_c AQ cQ Q Q.length rfl (20 + i) w h (by have := hLQ.out; omega))
                    have q0 := eq_true i0
                    have q1 := eq_true hlt
                    have q2 := eq_true (show 0 ≤ 20 + i by omega)
                    have q3 := eq_true (show 20 + i < 48 by omega)
                    generalize rd ws i = xv at hx hxr hE
                    obtain ⟨yv, hyv⟩ : ∃ x, rd eL (20 + i) = x := ⟨_, rfl⟩
                    rw [hyv] at hy hyr hE
                    replace hyv := Lib.hid hyv
                    obtain ⟨gv, hgv⟩ : ∃ x, rd gL (20 + i) = x := ⟨_, rfl⟩
                    rw [hgv] at hE
                    replace hgv := Lib.hid hgv
                    have VX := Lib.hid fun (w : World) => value_c xv hxr.1 hxr.2 w
                    have VY := Lib.hid fun (w : World) => value_c yv hyr.1 hyr.2 w
                    have F := fin64 hE (valI_rng yv)
                    generalize tot (20 + i) Q = tv at TT F
                    generalize valI xv = xV at VX F
                    generalize valI yv = yV at VY F
                    have wf1 := F.1
                    have wf2 := F.2.1
                    have wf3 := F.2.2
                    have n1 : ((xV + tv) != (xV + tv)) = false := bne_self_eq_false _
                    have ww := w28 i0 hlt
                    have wq1 := ww.1
                    have wq2 := ww.2
                    clear ww F hE hxr hyr hyf
                    go_upto_region 29 with fail
                    refine start_ (n := 12) (S := fun w' => w'.cell? ⟨b2, i.toNat, none⟩ = some (.int .u16 xv) ∧ w'.cell? ⟨ge, (20 + i).toNat, none⟩ = some (.int .u16 yv)) (ds := []) #[false, false, false, false, false, false, false, false, false, false, false, false] (by kernel_rfl) rfl rfl ⟨hx, hy⟩ (fun hHeld => ?_)
                    replace OE : Aside0 (OW .u16 23 (wr.drew) w.heap.size ge 48 ke eL) := ⟨OE.out.drew⟩
                    replace OG : Aside0 (OW .i64 3 (wr.drew) w.heap.size gg 48 kg gL) := ⟨OG.out.drew⟩
                    replace RQ : Aside0 (Kd.R k26 26 (wr.drew) w.heap.size (fun _ => True) (.slice AQ Q.length cQ) Q) := ⟨Kd.R_drew RQ.out⟩
                    replace K2 : Aside0 ((World.heap (wr.drew))[b2]? = some (.cells (ws.map (Value.int .u16)).toArray 56 (0, 0))) := ⟨blk_drew K2.out⟩
                    replace HB : Aside0 (Below w.heap.size w (wr.drew)) := ⟨below_drew1 HB.out⟩
                    change wr.drew.cell? _ = _ at hx hy
                    generalize wr.drew = wd at OE OG RQ K2 HB hx hy hHeld ⊢
                    refine pure_ (i := 0) (N := some 121) (v := ?_) (a' := ?_) #[true, false, false, false, false, false, false, false, false, false, false, false] rfl rfl (by kernel_rfl) (fun _ _ _ h => h) (Or.inl ⟨by rfl, ?_⟩) ?_ ?_
                    rotate_left
                    · intro w'
                      go_simp
                      with_reducible rfl
                    rotate_left
                    · simp only [Act.put, List.setIfInBounds_toArray, List.set_cons_zero, List.set_cons_succ, i64_w, i32_w]
                      rfl
                    refine pure_ (i := 1) (N := some 122) (v := ?_) (a' := ?_) #[true, true, false, false, false, false, false, false, false, false, false, false] rfl rfl (by kernel_rfl) (fun _ _ _ h => h) (Or.inl ⟨by rfl, ?_⟩) ?_ ?_
                    rotate_left
                    · intro w'
                      go_simp
                      with_reducible rfl
                    rotate_left
                    · simp only [Act.put, List.setIfInBounds_toArray, List.set_cons_zero, List.set_cons_succ, i64_w, i32_w]
                      rfl
                    refine pure_ (i := 4) (N := some 125) (v := ?_) (a' := ?_) #[true, true, false, false, true, false, false, false, false, false, false, false] rfl rfl (by kernel_rfl) (fun _ _ _ h => h) (Or.inl ⟨by rfl, ?_⟩) ?_ ?_
                    rotate_left
                    · intro w'
                      go_simp
                      with_reducible rfl
                    rotate_left
                    · simp only [Act.put, List.setIfInBounds_toArray, List.set_cons_zero, List.set_cons_succ, i64_w, i32_w]
                      rfl
                    refine pure_ (i := 5) (N := some 126) (v := ?_) (a' := ?_) #[true, true, false, false, true, true, false, false, false, false, false, false] rfl rfl (by kernel_rfl) (fun _ _ _ h => h) (Or.inl ⟨by rfl, ?_⟩) ?_ ?_
                    rotate_left
                    · intro w'
                      go_simp
                      with_reducible rfl
                    rotate_left
                    · simp only [Act.put, List.setIfInBounds_toArray, List.set_cons_zero, List.set_cons_succ, i64_w, i32_w]
                      rfl
                    refine pure_ (i := 6) (N := some 127) (v := ?_) (a' := ?_) #[true, true, false, false, true, true, true, false, false, false, false, false] rfl rfl (by kernel_rfl) (fun _ _ _ h => h) (Or.inl ⟨by rfl, ?_⟩) ?_ ?_
                    rotate_left
                    · intro w'
                      go_simp
                      with_reducible rfl
                    rotate_left
                    · simp only [Act.put, List.setIfInBounds_toArray, List.set_cons_zero, List.set_cons_succ, i64_w, i32_w]
                      rfl
                    refine pure_ (i := 7) (N := some 128) (v := ?_) (a' := ?_) #[true, true, false, false, true, true, true, true, false, false, false, false] rfl rfl (by kernel_rfl) (fun _ _ _ h => h) (Or.inl ⟨by rfl, ?_⟩) ?_ ?_
                    rotate_left
                    · intro w'
                      go_simp
                      with_reducible rfl
                    rotate_left
                    · simp only [Act.put, List.setIfInBounds_toArray, List.set_cons_zero, List.set_cons_succ, i64_w, i32_w]
                      rfl
                    refine take_ (i := 2) (N := some 123) (v := ?_) (a' := ?_) #[true, true, true, false, true, true, true, true, false, false, false, false] rfl rfl (by kernel_rfl) (fun _ _ _ h => h) (Or.inl ⟨by rfl, ?_⟩) hHeld ?_ ?_
                    rotate_left
                    · rintro w' ⟨s0, s1⟩
                      go_simp
                      with_reducible rfl
                    rotate_left
                    · simp only [Act.put, List.setIfInBounds_toArray, List.set_cons_zero, List.set_cons_succ, i64_w, i32_w]
                      rfl
                    refine take_ (i := 8) (N := some 129) (v := ?_) (a' := ?_) #[true, true, true, false, true, true, true, true, true, false, false, false] rfl rfl (by kernel_rfl) (fun _ _ _ h => h) (Or.inl ⟨by rfl, ?_⟩) hHeld ?_ ?_
                    rotate_left
                    · rintro w' ⟨s0, s1⟩
                      go_simp
                      with_reducible rfl
                    rotate_left
                    · simp only [Act.put, List.setIfInBounds_toArray, List.set_cons_zero, List.set_cons_succ, i64_w, i32_w]
                      rfl
                    refine one_ (i := 3) (N := some 124) #[true, true, true, true, true, true, true, true, true, false, false, false] rfl rfl (by kernel_rfl) (by decide) (fun K hK => ?_)
                    refine goes_ Try.func17 (by kernel_rfl) rfl #[.int .u16 xv] (by rfl) rfl rfl (by simp only [List.map_toArray, List.map_cons, List.map_nil]; rfl) ?_
                    with_reducible refine (VX.out _).mono ?_
                    rintro e w31 ⟨rfl, ⟨nd, hd⟩⟩
                    refine ⟨_, rfl, ?_⟩
                    have hbz := drawn_below hd
                    clear hd
                    replace hx := (hbz.cell (World.block_lt_of_cell? _ _ hx)).trans hx
                    replace hy := (hbz.cell (World.block_lt_of_cell? _ _ hy)).trans hy
                    replace OE := Aside0.mk (OE.out.below hbz)
                    replace OG := Aside0.mk (OG.out.below hbz)
                    replace RQ := Aside0.mk (Kd.R_below RQ.out hbz)
                    replace K2 := Aside0.mk (blk_below K2.out hbz)
                    have HBn := Aside0.mk (below_step (by repeat (first | (with_reducible first | exact HB.out | apply below_alloc | apply pw_below_drewN | apply below_drew1) | exact HB.out)) hbz)
                    clear HB hbz
                    have HB := HBn
                    clear HBn
                    refine hK.out _ _ ⟨hx, hy⟩ (fun hHeld => ?_)
                    clear hK K
                    refine norm_ (a' := ?_) ?_ ?_
                    rotate_left
                    · show Act.put _ (some 124) _ = _
                      simp only [Act.put, List.setIfInBounds_toArray, List.set_cons_zero, List.set_cons_succ, i64_w, i32_w]
                      rfl
                    refine one_ (i := 9) (N := some 130) #[true, true, true, true, true, true, true, true, true, true, false, false] rfl rfl (by kernel_rfl) (by decide) (fun K hK => ?_)
                    refine goes_ Try.func17 (by kernel_rfl) rfl #[.int .u16 yv] (by rfl) rfl rfl (by simp only [List.map_toArray, List.map_cons, List.map_nil]; rfl) ?_
                    with_reducible refine (VY.out _).mono ?_
                    rintro e w32 ⟨rfl, ⟨nd, hd⟩⟩
                    refine ⟨_, rfl, ?_⟩
                    have hbz := drawn_below hd
                    clear hd
                    replace hx := (hbz.cell (World.block_lt_of_cell? _ _ hx)).trans hx
                    replace hy := (hbz.cell (World.block_lt_of_cell? _ _ hy)).trans hy
                    replace OE := Aside0.mk (OE.out.below hbz)
                    replace OG := Aside0.mk (OG.out.below hbz)
                    replace RQ := Aside0.mk (Kd.R_below RQ.out hbz)
                    replace K2 := Aside0.mk (blk_below K2.out hbz)
                    have HBn := Aside0.mk (below_step (by repeat (first | (with_reducible first | exact HB.out | apply below_alloc | apply pw_below_drewN | apply below_drew1) | exact HB.out)) hbz)
                    clear HB hbz
                    have HB := HBn
                    clear HBn
                    refine hK.out _ _ ⟨hx, hy⟩ (fun hHeld => ?_)
                    clear hK K
                    refine norm_ (a' := ?_) ?_ ?_
                    rotate_left
                    · show Act.put _ (some 130) _ = _
                      simp only [Act.put, List.setIfInBounds_toArray, List.set_cons_zero, List.set_cons_succ, i64_w, i32_w]
                      rfl
                    refine pure_ (i := 10) (N := some 19) (v := ?_) (a' := ?_) #[true, true, true, true, true, true, true, true, true, true, true, false] rfl rfl (by kernel_rfl) (fun _ _ _ h => h) (Or.inl ⟨by rfl, ?_⟩) ?_ ?_
                    rotate_left
                    · intro w'
                      go_simp
                      with_reducible rfl
                    rotate_left
                    · simp only [Act.put, List.setIfInBounds_toArray, List.set_cons_zero, List.set_cons_succ, i64_w, i32_w]
                      rfl
                    refine pure_ (i := 11) (N := some 20) (v := ?_) (a' := ?_) #[true, true, true, true, true, true, true, true, true, true, true, true] rfl rfl (by kernel_rfl) (fun _ _ _ h => h) (Or.inl ⟨by rfl, ?_⟩) ?_ ?_
                    rotate_left
                    · intro w'
                      go_simp
                      with_reducible rfl
                    rotate_left
                    · simp only [Act.put, List.setIfInBounds_toArray, List.set_cons_zero, List.set_cons_succ, i64_w, i32_w]
                      rfl
                    refine done_ (by kernel_rfl) ?_
            
                    obtain ⟨hgc, hgcf⟩ := OG.out.cell (20 + i) (of_eq_true q2) (of_eq_true q3)
                    rw [hgv.out] at hgc
                    clear hx hy hgcf VX VY
                    go_upto_region 30 with fail
                    refine start_ (n := 15) (S := fun w' => w'.cell? ⟨gg, (20 + i).toNat, none⟩ = some (.int .i64 gv)) (ds := []) #[false, false, false, false, false, false, false, false, false, false, false, false, false, false, false] (by kernel_rfl) rfl rfl (hgc) (fun hHeld => ?_)
                    replace OE : Aside0 (OW .u16 23 (w32.drew) w.heap.size ge 48 ke eL) := ⟨OE.out.drew⟩
                    replace OG : Aside0 (OW .i64 3 (w32.drew) w.heap.size gg 48 kg gL) := ⟨OG.out.drew⟩
                    replace RQ : Aside0 (Kd.R k26 26 (w32.drew) w.heap.size (fun _ => True) (.slice AQ Q.length cQ) Q) := ⟨Kd.R_drew RQ.out⟩
                    replace K2 : Aside0 ((World.heap (w32.drew))[b2]? = some (.cells (ws.map (Value.int .u16)).toArray 56 (0, 0))) := ⟨blk_drew K2.out⟩
                    replace HB : Aside0 (Below w.heap.size w (w32.drew)) := ⟨below_drew1 HB.out⟩
                    change w32.drew.cell? _ = _ at hgc
                    generalize w32.drew = wd at OE OG RQ K2 HB hgc hHeld ⊢
                    refine pure_ (i := 0) (N := some 131) (v := ?_) (a' := ?_) #[true, false, false, false, false, false, false, false, false, false, false, false, false, false, false] rfl rfl (by kernel_rfl) (fun _ _ _ h => h) (Or.inl ⟨by rfl, ?_⟩) ?_ ?_
                    rotate_left
                    · intro w'
                      go_simp
                      with_reducible rfl
                    rotate_left
                    · simp only [Act.put, List.setIfInBounds_toArray, List.set_cons_zero, List.set_cons_succ, i64_w, i32_w]
                      rfl
                    refine pure_ (i := 1) (N := some 132) (v := ?_) (a' := ?_) #[true, true, false, false, false, false, false, false, false, false, false, false, false, false, false] rfl rfl (by kernel_rfl) (fun _ _ _ h => h) (Or.inl ⟨by rfl, ?_⟩) ?_ ?_
                    rotate_left
                    · intro w'
                      go_simp
                      with_reducible rfl
                    rotate_left
                    · simp only [Act.put, List.setIfInBounds_toArray, List.set_cons_zero, List.set_cons_succ, i64_w, i32_w]
                      rfl
                    refine pure_ (i := 2) (N := some 133) (v := ?_) (a' := ?_) #[true, true, true, false, false, false, false, false, false, false, false, false, false, false, false] rfl rfl (by kernel_rfl) (fun _ _ _ h => h) (Or.inl ⟨by rfl, ?_⟩) ?_ ?_
                    rotate_left
                    · intro w'
                      go_simp
                      with_reducible rfl
                    rotate_left
                    · simp only [Act.put, List.setIfInBounds_toArray, List.set_cons_zero, List.set_cons_succ, i64_w, i32_w]
                      rfl
                    refine pure_ (i := 3) (N := some 134) (v := ?_) (a' := ?_) #[true, true, true, true, false, false, false, false, false, false, false, false, false, false, false] rfl rfl (by kernel_rfl) (fun _ _ _ h => h) (Or.inl ⟨by rfl, ?_⟩) ?_ ?_
                    rotate_left
                    · intro w'
                      go_simp
                      with_reducible rfl
                    rotate_left
                    · simp only [Act.put, List.setIfInBounds_toArray, List.set_cons_zero, List.set_cons_succ, i64_w, i32_w]
                      rfl
                    refine pure_ (i := 4) (N := some 135) (v := ?_) (a' := ?_) #[true, true, true, true, true, false, false, false, false, false, false, false, false, false, false] rfl rfl (by kernel_rfl) (fun _ _ _ h => h) (Or.inl ⟨by rfl, ?_⟩) ?_ ?_
                    rotate_left
                    · intro w'
                      go_simp
                      with_reducible rfl
                    rotate_left
                    · simp only [Act.put, List.setIfInBounds_toArray, List.set_cons_zero, List.set_cons_succ, i64_w, i32_w]
                      rfl
                    refine pure_ (i := 8) (N := some 139) (v := ?_) (a' := ?_) #[true, true, true, true, true, false, false, false, true, false, false, false, false, false, false] rfl rfl (by kernel_rfl) (fun _ _ _ h => h) (Or.inl ⟨by rfl, ?_⟩) ?_ ?_
                    rotate_left
                    · intro w'
                      go_simp
                      with_reducible rfl
                    rotate_left
                    · simp only [Act.put, List.setIfInBounds_toArray, List.set_cons_zero, List.set_cons_succ, i64_w, i32_w]
                      rfl
                    refine pure_ (i := 9) (N := some 140) (v := ?_) (a' := ?_) #[true, true, true, true, true, false, false, false, true, true, false, false, false, false, false] rfl rfl (by kernel_rfl) (fun _ _ _ h => h) (Or.inl ⟨by rfl, ?_⟩) ?_ ?_
                    rotate_left
                    · intro w'
                      go_simp
                      with_reducible rfl
                    rotate_left
                    · simp only [Act.put, List.setIfInBounds_toArray, List.set_cons_zero, List.set_cons_succ, i64_w, i32_w]
                      rfl
                    refine pure_ (i := 10) (N := some 141) (v := ?_) (a' := ?_) #[true, true, true, true, true, false, false, false, true, true, true, false, false, false, false] rfl rfl (by kernel_rfl) (fun _ _ _ h => h) (Or.inl ⟨by rfl, ?_⟩) ?_ ?_
                    rotate_left
                    · intro w'
                      go_simp
                      with_reducible rfl
                    rotate_left
                    · simp only [Act.put, List.setIfInBounds_toArray, List.set_cons_zero, List.set_cons_succ, i64_w, i32_w]
                      rfl
                    refine pure_ (i := 11) (N := some 142) (v := ?_) (a' := ?_) #[true, true, true, true, true, false, false, false, true, true, true, true, false, false, false] rfl rfl (by kernel_rfl) (fun _ _ _ h => h) (Or.inl ⟨by rfl, ?_⟩) ?_ ?_
                    rotate_left
                    · intro w'
                      go_simp
                      with_reducible rfl
                    rotate_left
                    · simp only [Act.put, List.setIfInBounds_toArray, List.set_cons_zero, List.set_cons_succ, i64_w, i32_w]
                      rfl
                    refine take_ (i := 5) (N := some 136) (v := ?_) (a' := ?_) #[true, true, true, true, true, true, false, false, true, true, true, true, false, false, false] rfl rfl (by kernel_rfl) (fun _ _ _ h => h) (Or.inl ⟨by rfl, ?_⟩) hHeld ?_ ?_
                    rotate_left
                    · intro w' s0
                      go_simp
                      with_reducible rfl
                    rotate_left
                    · simp only [Act.put, List.setIfInBounds_toArray, List.set_cons_zero, List.set_cons_succ, i64_w, i32_w]
                      rfl
                    refine pure_ (i := 6) (N := some 137) (v := ?_) (a' := ?_) #[true, true, true, true, true, true, true, false, true, true, true, true, false, false, false] rfl rfl (by kernel_rfl) (fun _ _ _ h => h) (Or.inl ⟨by rfl, ?_⟩) ?_ ?_
                    rotate_left
                    · intro w'
                      go_simp
                      with_reducible rfl
                    rotate_left
                    · simp only [Act.put, List.setIfInBounds_toArray, List.set_cons_zero, List.set_cons_succ, i64_w, i32_w]
                      rfl
                    refine pure_ (i := 7) (N := some 138) (v := ?_) (a' := ?_) #[true, true, true, true, true, true, true, true, true, true, true, true, false, false, false] rfl rfl (by kernel_rfl) (fun _ _ _ h => h) (Or.inl ⟨by rfl, ?_⟩) ?_ ?_
                    rotate_left
                    · intro w'
                      go_simp
                      with_reducible rfl
                    rotate_left
                    · simp only [Act.put, List.setIfInBounds_toArray, List.set_cons_zero, List.set_cons_succ, i64_w, i32_w]
                      rfl
                    refine one_ (i := 12) (N := some 143) #[true, true, true, true, true, true, true, true, true, true, true, true, true, false, false] rfl rfl (by kernel_rfl) (by decide) (fun K hK => ?_)
                    refine goes_ Try.func25 (by kernel_rfl) rfl #[.slice AQ Q.length cQ, .int .i64 (wrap64 (20 + i))] (by rfl) rfl rfl (by simp only [List.map_toArray, List.map_cons, List.map_nil]; rfl) ?_
                    with_reducible refine (TT.out _ (Kd.R_reads' RQ.out).2.2).mono ?_
                    rintro e w33 ⟨rfl, hbz⟩
                    refine ⟨_, rfl, ?_⟩
                    replace hgc := (hbz.cell (World.block_lt_of_cell? _ _ hgc)).trans hgc
                    replace OE := Aside0.mk (OE.out.below hbz)
                    replace OG := Aside0.mk (OG.out.below hbz)
                    replace RQ := Aside0.mk (Kd.R_below RQ.out hbz)
                    replace K2 := Aside0.mk (blk_below K2.out hbz)
                    have HBn := Aside0.mk (below_step (by repeat (first | (with_reducible first | exact HB.out | apply below_alloc | apply pw_below_drewN | apply below_drew1) | exact HB.out)) hbz)
                    clear HB hbz
                    have HB := HBn
                    clear HBn
                    refine hK.out _ _ (hgc) (fun hHeld => ?_)
                    clear hK K
                    refine norm_ (a' := ?_) ?_ ?_
                    rotate_left
                    · show Act.put _ (some 143) _ = _
                      simp only [Act.put, List.setIfInBounds_toArray, List.set_cons_zero, List.set_cons_succ, i64_w, i32_w]
                      rfl
                    refine pure_ (i := 13) (N := some 144) (v := ?_) (a' := ?_) #[true, true, true, true, true, true, true, true, true, true, true, true, true, true, false] rfl rfl (by kernel_rfl) (fun _ _ _ h => h) (Or.inl ⟨by rfl, ?_⟩) ?_ ?_
                    rotate_left
                    · intro w'
                      go_simp
                      with_reducible rfl
                    rotate_left
                    · simp only [Act.put, List.setIfInBounds_toArray, List.set_cons_zero, List.set_cons_succ, i64_w, i32_w]
                      rfl
                    refine pure_ (i := 14) (N := some 145) (v := ?_) (a' := ?_) #[true, true, true, true, true, true, true, true, true, true, true, true, true, true, true] rfl rfl (by kernel_rfl) (fun _ _ _ h => h) (Or.inl ⟨by rfl, ?_⟩) ?_ ?_
                    rotate_left
                    · intro w'
                      go_simp
                      with_reducible rfl
                    rotate_left
                    · simp only [Act.put, List.setIfInBounds_toArray, List.set_cons_zero, List.set_cons_succ, i64_w, i32_w]
                      rfl
                    refine done_ (by kernel_rfl) ?_
            
                    go_wp2
                    go_roundg g
                    case measure => omega
                    case rel => exact ⟨i + 1, by simp [wq1], ⟨(g28 hg.out).1, (g28 hg.out).2⟩, OE, OG, RQ, K2, HB⟩
                  · have b5 : decide (i < 28) = false := decide_eq_false hlt
                    clear hg hlt
                    go_wp2_with (first | (go_at_call 16; (with_reducible refine at_args #[] ?_); (with_reducible refine (works_c _).mono ?_); rintro e w' ⟨rfl, hbw⟩; have HBn := Aside0.mk (below_step (by repeat (first | (with_reducible first | exact HB.out | apply below_alloc | apply pw_below_drewN | apply below_drew1) | exact HB.out)) hbw); clear HB hbw; have HB := HBn; clear HBn))
                    go_ret
                    exact ⟨rfl, by repeat (first | (with_reducible first | exact HB.out | apply below_alloc | apply pw_below_drewN | apply below_drew1) | exact HB.out)⟩
theorem counts_law (ws : List Int) (a1 : Option Addr) (len1 cap1 : Nat) (z1 : List Int) (w : World) (w0 : ws.length = 28) (b0 : ∀ y ∈ ws, (Lit.int .u16 y).wf = true)
    (w1 : (a1 = none ∧ len1 = 0 ∧ cap1 = 0 ∧ z1 = []) ∨ ∃ x, a1 = some x ∧ len1 ≤ cap1 ∧ cap1 ≤ maxLen ∧ z1.length = cap1 ∧ (∀ i, i < z1.length → w.cell? (x.add i) = some (.int .u8 (z1.getD i 0))) ∧ ∀ n ∈ z1, (Lit.int .u8 n).wf = true) (y1 : len1 * 1 ≤ 140737488351232) :
    Calls Try.prog 10 #[.agg (ws.map (Value.int .u16)).toArray, .slice a1 len1 cap1] w fun e w' => e = .returned (.bool true) ∧ Below w.heap.size w w' := by
  obtain ⟨l2, rfl, hr2, hm2, hw2, hc2⟩ := ReadsInt.ofRowC w1
  exact counts_calls ws _ _ l2 w w0 (fun x hx => by obtain ⟨n, rfl, h⟩ := wf16 (b0 x hx); omega) (Kd.C_of_reads (d := (0 : Int)) (h1 := fun _ => rfl) hr2) hc2 (fun x hx => by obtain ⟨n, rfl, h⟩ := wf8 (hw2 x hx); omega)
end Go.Proofs.Ytebnodldfddbnaa.Cnt
