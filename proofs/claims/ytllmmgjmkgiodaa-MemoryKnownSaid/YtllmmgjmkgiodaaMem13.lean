/- memory.Fixed's contract and the law MemoryFixed: Fixed and Erasable answer as their reference does, for every list of banks. -/
import Derived.Test.YtllmmgjmkgiodaaMem12
import Derived.Lib.SmallJoins
namespace Go.Proofs.Ytllmmgjmkgiodaa.Mem
open Go.RowKit Go.Deep Go.Proofs.Ytllmmgjmkgiodaa.PAll Go.Proofs.YtllmmgjmkgiodaaW.PrintWords Go.Proofs.YtllmmgjmkgiodaaW.PrintLast Go.Proofs.YtllmmgjmkgiodaaW.PrintMore Go.Proofs.Ytllmmgjmkgiodaa.Plain Go.Proofs.Ytllmmgjmkgiodaa.Par Go.Proofs.Ytllmmgjmkgiodaa.Lit
set_option linter.unusedVariables false
set_option linter.unusedSimpArgs false
theorem cell_keep {w : World} {o : Obj} {a : Addr} {v : Value} (h : w.cell? a = some v) : (w.alloc o).cell? a = some v :=
  (((Below.refl w.heap.size w).alloc (Nat.le_refl _) o).cell (World.block_lt_of_cell? w _ h)).trans h
theorem cell_blk {w : World} {g i : Nat} {cs : Array Value} {t : TypeId} {fr : Nat × Nat} (h : w.heap[g]? = some (.cells cs t fr)) : w.cell? ⟨g, i, none⟩ = cs[i]? := by simp [World.cell?, h]
theorem cut3_run {P : Program} (t e : TypeId) {i : TypeInfo} (ht : P.underlying t = some (.slice e)) (hi : P.info? e = some i) (hs : i.size = 1) (g n c : Nat) (a : Int) (b : Int) (h0 : 0 ≤ a) (hb : a < b) (hc : b ≤ c) (W : World) :
    (Instr.slice t (.slice (some ⟨g, 0, none⟩) n c) (some (.int .i64 a)) (some (.int .i64 b)) (some (.int .i64 b))).run P W = .ok (.slice (some ⟨g, a.toNat, none⟩) (b.toNat - a.toNat) (b.toNat - a.toNat)) W := by
  have hel : P.elem t = e := by simp [Program.elem, ht]
  have hu : P.underlying t = some (.slice (P.elem t)) := by rw [hel]; exact ht
  have hadd : (⟨g, 0, none⟩ : Addr).add a.toNat = ⟨g, a.toNat, none⟩ := by unfold Addr.add; split <;> simp_all
  rw [run_slice_lhm (P := P) W t (some ⟨g, 0, none⟩) n c hu .i64 .i64 .i64 a b b h0 (by omega) (Int.le_refl _) hc, hel]
  have hne : ¬ b.toNat = a.toNat := by omega
  simp [sizeOf, typeInfo, hi, hs, sliced, Result.andThen, hne, hadd]
theorem copy_src {w : World} {A : Option Addr} {n : Nat} {xs : List Int} (h : ReadsOf (Value.int .u16) (0 : Int) w A n xs) (hp : 0 < n) : ∃ ad, A = some ad ∧ ∀ j v, (xs.map (Value.int .u16))[j]? = some v → w.cell? (ad.add j) = some v := by
  obtain ⟨ad, e, hc⟩ := h.2.2 hp
  refine ⟨ad, e, fun j v hv => ?_⟩
  rw [List.getElem?_map, Option.map_eq_some_iff] at hv
  obtain ⟨x, hx, rfl⟩ := hv
  obtain ⟨hj, hx⟩ := List.getElem?_eq_some_iff.1 hx
  rw [hc j (by have := h.1; omega), List.getD_eq_getElem?_getD, List.getElem?_eq_getElem hj, hx]; rfl
theorem row_len {w : World} {base g n c : Nat} {ok : Nat → Prop} {xs : List Int} (h : Kd.R (Kd.int .u16) 54 w base ok (.slice (some ⟨g, 0, none⟩) n c) xs) {cur : List Value} (hg : w.heap[g]? = some (.cells cur.toArray 54 (0, 0))) : xs.length ≤ cur.length := by
  obtain ⟨hn, _, _⟩ := Kd.R_reads' h
  obtain ⟨hl, ho⟩ := Kd.own_of_R h
  rcases ho with ⟨hv, _⟩ | ⟨g', cap, cur', hv, hb, hg', h2, h3, h4, h5⟩
  · cases hv
  · injection hv with e1 e2 e3
    injection e1 with e1
    injection e1 with e1
    subst e1
    rw [hg] at hg'
    injection hg' with hg'
    injection hg' with hc
    subst hc
    simp only [Nat.mul_one, List.size_toArray] at h4
    omega
/-- What is in the way of the bank, if anything. -/
theorem chk_cases (s : List Int) (b : S64) : (¬ (0 ≤ b.f0 ∧ b.f0 ≤ 35) ∧ chk s b = 3) ∨ ((0 ≤ b.f0 ∧ b.f0 ≤ 35) ∧ b.f0 ∈ s ∧ chk s b = 8) ∨ ((0 ≤ b.f0 ∧ b.f0 ≤ 35) ∧ b.f0 ∉ s ∧ (b.f1.length : Int) > 1024 ∧ chk s b = 4) ∨
    ((0 ≤ b.f0 ∧ b.f0 ≤ 35) ∧ b.f0 ∉ s ∧ ¬ (b.f1.length : Int) > 1024 ∧ chk s b = if over b.f1 then 3 else 0) := by
  unfold chk
  by_cases c : 0 ≤ b.f0 ∧ b.f0 ≤ 35
  · by_cases d : b.f0 ∈ s
    · exact .inr (.inl ⟨c, d, by rw [if_pos c, if_pos d]⟩)
    · by_cases e : (b.f1.length : Int) > 1024
      · exact .inr (.inr (.inl ⟨c, d, e, by rw [if_pos c, if_neg d, if_pos e]⟩))
      · exact .inr (.inr (.inr ⟨c, d, e, by rw [if_pos c, if_neg d, if_neg e]⟩))
  · exact .inl ⟨c, by rw [if_neg c]⟩
theorem fixL_bad {l : List S64} {c : Int} (h : fixE l [] = c) (hc : c ≠ 0) : fixL l = [] := by unfold fixL; rw [h, if_neg hc]
set_option maxRecDepth 100000 in
set_option maxHeartbeats 4000000 in
theorem Fixed_w (A : Option Addr) (c : Nat) (l : List S64) (n : Nat) (e0 : l.length = n) (hn : n ≤ 40) (w : World) (hr : Kd.C k64 w A n l) (hR : RNB l) (er : Int) (r : List Int) (her : fixE l [] = er) (hrr : fixL l = r) :
    Calls Try.prog 30 #[.slice A n c] w fun e w' => ∃ v, e = .returned (.tuple #[v, .int .i64 er]) ∧ Kd.R (Kd.int .u16) 54 w' w.heap.size (fun _ => True) v r ∧ Below w.heap.size w w' := by
  have HB := Aside0.mk (Below.refl w.heap.size w)
  have hC0 := Aside0.mk hr
  clear hr
  replace her := Lib.hid her
  replace hrr := Lib.hid hrr
  have BL := Lib.hid (blank_c 36864 (by decide))
  go_enter Try.func30, Try.ntmps30
  go_wp2_with (go_at_call 41; (with_reducible refine at_args #[.int .i64 36864] ?_); refine (BL.out _).mono ?_; rintro e w' ⟨v, rfl, hR5, hb5⟩; obtain ⟨g5, k5, e5, hge5, _, _⟩ := Kd.R_form hR5 (by rw [zerosL_len]; decide); rw [zerosL_len] at e5; subst e5; have hg5 : w.heap.size + 1 ≤ g5 := (by simpa using hge5); clear hge5; replace hg5 := Lib.hid hg5; have R5 := Aside0.mk (Kd.R_lower (base' := w.heap.size) hR5 (below_size (by repeat (first | (with_reducible first | exact HB.out | apply below_alloc | apply pw_below_drewN | apply below_drew1) | exact HB.out)))); have HS := Aside0.mk ((hb5.block w.heap.size (by simp)).trans (heap_alloc_new w _)); have HSl := Aside0.mk (show w.heap.size < w'.heap.size from Nat.lt_of_lt_of_le (by simp) hb5.size); clear hR5; have HBn := Aside0.mk (below_step (by repeat (first | (with_reducible first | exact HB.out | apply below_alloc | apply pw_below_drewN | apply below_drew1) | exact HB.out)) hb5); clear HB hb5; have HB := HBn; clear HBn)
  clear BL
  rw [← seenA_nil] at HS
  have W6 := Lib.hid (Eq.refl n)
  obtain ⟨hs_, hhs⟩ : ∃ h, w.heap.size = h := ⟨_, rfl⟩
  rw [hhs] at hg5 HS HSl ⊢
  replace hhs := Lib.hid hhs
  go_loopg [14] n (fun g v14 w' => ∃ i : Int, v14 = .int .i64 i ∧ 0 ≤ i ∧ Aside0 (i + g = n) ∧ Aside0 (fixE (l.take i.toNat) [] = 0) ∧ Aside0 (w'.heap[hs_]? = some (.cells (seenA (nos (l.take i.toNat))) 70 (0, 0))) ∧ Aside0 (hs_ < w'.heap.size) ∧ Aside0 (Kd.R (Kd.int .u16) 54 w' w.heap.size (fun _ => True) (.slice (some ⟨g5, 0, none⟩) 36864 k5) ((l.take i.toNat).foldl fill (zerosL 36864))) ∧ Aside0 (Below w.heap.size w w'))
  case atStart => exact ⟨0, rfl, by decide, ⟨by omega⟩, ⟨rfl⟩, ⟨HS.out⟩, ⟨HSl.out⟩, ⟨R5.out⟩, ⟨HB.out⟩⟩
  case round =>
    clear R5 HB HS HSl
    obtain ⟨i, rfl, h0, hg, HE, HS, HSl, R5, HB⟩ := hrel
    by_cases hlt : i < (n : Int)
    · obtain ⟨g, rfl⟩ : ∃ g, gk = g + 1 := ⟨gk - 1, by have := hg.out; omega⟩
      have b0 : decide (i < (n : Int)) = true := decide_eq_true hlt
      obtain ⟨ad, A1, c1, eA, hx0, hx1, hl1, hC1⟩ := at_T64 hC0.out i h0 hlt
      cases eA
      replace hx0 := (HB.out.cell (World.block_lt_of_cell? w _ hx0)).trans hx0
      replace hx1 := (HB.out.cell (World.block_lt_of_cell? w _ hx1)).trans hx1
      replace hC1 := Lib.hid hC1
      have STEP := fixE_step l i h0 (by omega) HE.out
      have hltl : i < (l.length : Int) := by omega
      rcases chk_cases (nos (l.take i.toNat)) (rd_T64 l i) with ⟨hc, hk⟩ | ⟨hc, hm, hk⟩ | ⟨hc, hm, hlen, hk⟩ | ⟨hc, hm, hlen, hk⟩
      · rw [hk] at STEP
        have NB := fixE_bad l i h0 hltl 3 (by decide) STEP
        have NF := fixL_bad NB (by decide)
        rw [NB] at her
        rw [NF] at hrr
        clear NB NF STEP hk
        obtain ⟨b, hbe, hbv⟩ : ∃ b, decide (0 ≤ (rd_T64 l i).f0) = b ∧ (b = true → decide ((rd_T64 l i).f0 ≤ 35) = false) := ⟨_, rfl, fun h => by
          rw [decide_eq_true_eq] at h
          exact decide_eq_false (by omega)⟩
        cases b with
        | false =>
          clear hbv hc
          go_wp2
          go_ret2
          exact ⟨_, by rw [← her.out]; rfl, by rw [← hrr.out]; exact Kd.R_nil _ _ _ _ _, by repeat (first | (with_reducible first | exact HB.out | apply below_alloc | apply pw_below_drewN | apply below_drew1) | exact HB.out)⟩
        | true =>
          have hbv1 := hbv rfl
          clear hbv hc
          go_wp2
          go_ret2
          exact ⟨_, by rw [← her.out]; rfl, by rw [← hrr.out]; exact Kd.R_nil _ _ _ _ _, by repeat (first | (with_reducible first | exact HB.out | apply below_alloc | apply pw_below_drewN | apply below_drew1) | exact HB.out)⟩
      · rw [hk] at STEP
        have NB := fixE_bad l i h0 hltl 8 (by decide) STEP
        have NF := fixL_bad NB (by decide)
        rw [NB] at her
        rw [NF] at hrr
        clear NB NF STEP hk
        obtain ⟨h2, h3⟩ := hc
        have b1 : decide (0 ≤ (rd_T64 l i).f0) = true := decide_eq_true h2
        have b2 : decide ((rd_T64 l i).f0 ≤ 35) = true := decide_eq_true h3
        have hsn : (wr.alloc (.cells #[.int .i64 (rd_T64 l i).f0, .slice A1 (rd_T64 l i).f1.length c1] 64)).cell? ⟨hs_, (rd_T64 l i).f0.toNat, none⟩ = some (.bool true) := cell_keep (by rw [cell_blk HS.out, seenA_get _ _ h2 h3, decide_eq_true hm])
        have q2 := eq_true h2
        have q3 : ((rd_T64 l i).f0 < 36) = True := eq_true (by omega)
        clear h2 h3 hm
        go_wp2
        go_ret2
        exact ⟨_, by rw [← her.out]; rfl, by rw [← hrr.out]; exact Kd.R_nil _ _ _ _ _, by repeat (first | (with_reducible first | exact HB.out | apply below_alloc | apply pw_below_drewN | apply below_drew1) | exact HB.out)⟩
      · rw [hk] at STEP
        have NB := fixE_bad l i h0 hltl 4 (by decide) STEP
        have NF := fixL_bad NB (by decide)
        rw [NB] at her
        rw [NF] at hrr
        clear NB NF STEP hk
        obtain ⟨h2, h3⟩ := hc
        have b1 : decide (0 ≤ (rd_T64 l i).f0) = true := decide_eq_true h2
        have b2 : decide ((rd_T64 l i).f0 ≤ 35) = true := decide_eq_true h3
        have hsn : (wr.alloc (.cells #[.int .i64 (rd_T64 l i).f0, .slice A1 (rd_T64 l i).f1.length c1] 64)).cell? ⟨hs_, (rd_T64 l i).f0.toNat, none⟩ = some (.bool false) := cell_keep (by rw [cell_blk HS.out, seenA_get _ _ h2 h3, decide_eq_false hm])
        have b3 : decide (((rd_T64 l i).f1.length : Int) > 1024) = true := decide_eq_true hlen
        have b4 : decide (1024 < ((rd_T64 l i).f1.length : Int)) = true := decide_eq_true hlen
        have q2 := eq_true h2
        have q3 : ((rd_T64 l i).f0 < 36) = True := eq_true (by omega)
        clear h2 h3 hm hlen
        go_wp2
        go_ret2
        exact ⟨_, by rw [← her.out]; rfl, by rw [← hrr.out]; exact Kd.R_nil _ _ _ _ _, by repeat (first | (with_reducible first | exact HB.out | apply below_alloc | apply pw_below_drewN | apply below_drew1) | exact HB.out)⟩
      · obtain ⟨h2, h3⟩ := hc
        have b1 : decide (0 ≤ (rd_T64 l i).f0) = true := decide_eq_true h2
        have b2 : decide ((rd_T64 l i).f0 ≤ 35) = true := decide_eq_true h3
        have hsn : (wr.alloc (.cells #[.int .i64 (rd_T64 l i).f0, .slice A1 (rd_T64 l i).f1.length c1] 64)).cell? ⟨hs_, (rd_T64 l i).f0.toNat, none⟩ = some (.bool false) := cell_keep (by rw [cell_blk HS.out, seenA_get _ _ h2 h3, decide_eq_false hm])
        have b3 : decide (((rd_T64 l i).f1.length : Int) > 1024) = false := decide_eq_false hlen
        have b4 : decide (1024 < ((rd_T64 l i).f1.length : Int)) = false := decide_eq_false hlen
        have q2 := eq_true h2
        have q3 : ((rd_T64 l i).f0 < 36) = True := eq_true (by omega)
        replace hk := Lib.hid hk
        replace hm := Lib.hid hm
        replace hlen := Lib.hid hlen
        replace h2 := Lib.hid h2
        replace h3 := Lib.hid h3
        go_wp2
        generalize hwb : (wr.alloc (Obj.cells #[Value.int IntKind.i64 (rd_T64 l i).f0, Value.slice A1 (rd_T64 l i).f1.length c1] 64)) = wb at hsn
        have hbx0 : wb.cell? ⟨wr.heap.size, 0, none⟩ = some (.int .i64 (rd_T64 l i).f0) := by rw [← hwb, World.cell?_alloc_mark]; rfl
        have hbx1 : wb.cell? ⟨wr.heap.size, 1, none⟩ = some (.slice A1 (rd_T64 l i).f1.length c1) := by rw [← hwb, World.cell?_alloc_mark]; rfl
        have R7 : Aside0 (Kd.R (Kd.int .u16) 54 wb w.heap.size (fun _ => True) (.slice (some ⟨g5, 0, none⟩) 36864 k5) ((l.take i.toNat).foldl fill (zerosL 36864))) := ⟨by rw [← hwb]; exact Kd.R_alloc R5.out _⟩
        have HB7 : Aside0 (Below w.heap.size w wb) := ⟨by rw [← hwb]; exact (by repeat (first | (with_reducible first | exact HB.out | apply below_alloc | apply pw_below_drewN | apply below_drew1) | exact HB.out))⟩
        have HS7 : Aside0 (wb.heap[hs_]? = some (.cells (seenA (nos (l.take i.toNat))) 70 (0, 0))) := ⟨by rw [← hwb]; exact (((Below.refl _ _).alloc (Nat.le_refl _) _).block _ HSl.out).trans HS.out⟩
        have HL7 : Aside0 (hs_ < wb.heap.size) := ⟨by rw [← hwb]; have := HSl.out; simp; omega⟩
        have hne : hs_ ≠ wr.heap.size := Nat.ne_of_lt HSl.out
        clear R5 HB HS HSl hwb hx0 hx1
        have R5 := R7
        have HB := HB7
        have HS := HS7
        have HSl := HL7
        clear R7 HB7 HS7 HL7
        generalize wr.heap.size = hb_ at hbx0 hbx1 hne ⊢
        go_loopg [36] (rd_T64 l i).f1.length (fun g v36 w' => w' = wb ∧ ∃ j : Nat, v36 = .int .i64 (j : Int) ∧ Aside0 (j + g = (rd_T64 l i).f1.length) ∧ Aside0 (over ((rd_T64 l i).f1.take j) = false))
        case atStart => exact ⟨rfl, 0, rfl, ⟨by omega⟩, ⟨rfl⟩⟩
        case round =>
          have hg0 := hg
          clear hg
          obtain ⟨rfl, j, rfl, hg, HO⟩ := hrel
          by_cases hjt : j < (rd_T64 l i).f1.length
          · obtain ⟨g', rfl⟩ : ∃ g', gk = g' + 1 := ⟨gk - 1, by have := hg.out; omega⟩
            have b5 : decide ((j : Int) < ((rd_T64 l i).f1.length : Int)) = true := decide_eq_true (by omega)
            obtain ⟨ad2, eA, hy⟩ := Kd.at_int (Kd.C_below hC1.out HB.out) (j : Int) (by omega) (by omega)
            cases eA
            rw [Int.toNat_natCast] at hy
            have b8 : decide (j < (rd_T64 l i).f1.length) = true := decide_eq_true hjt
            have q4 : (0 ≤ (j : Int)) = True := eq_true (by omega)
            have q5 : ((j : Int) < ((rd_T64 l i).f1.length : Int)) = True := eq_true (by omega)
            by_cases hov : rd (rd_T64 l i).f1 j > 32767
            · have b6 : decide (rd (rd_T64 l i).f1 j > 32767) = true := decide_eq_true hov
              have b7 : decide (32767 < rd (rd_T64 l i).f1 j) = true := decide_eq_true hov
              have hk1 := hk.out
              rw [over_bad _ j (by omega) (by omega) hov, if_pos rfl] at hk1
              have NB := fixE_bad l i h0 hltl 3 (by decide) (STEP.trans hk1)
              have NF := fixL_bad NB (by decide)
              rw [NB] at her
              rw [NF] at hrr
              clear NB NF STEP hk1 hov hlt
              go_wp2
              go_ret2
              exact ⟨_, by rw [← her.out]; rfl, by rw [← hrr.out]; exact Kd.R_nil _ _ _ _ _, by repeat (first | (with_reducible first | exact HB.out | apply below_alloc | apply pw_below_drewN | apply below_drew1) | exact HB.out)⟩
            · have b6 : decide (rd (rd_T64 l i).f1 j > 32767) = false := decide_eq_false hov
              have b7 : decide (32767 < rd (rd_T64 l i).f1 j) = false := decide_eq_false hov
              have HT := over_take (rd_T64 l i).f1 j (by omega) (by omega)
              rw [show ((j : Int) + 1).toNat = j + 1 by omega, Int.toNat_natCast, HO.out, b6] at HT
              replace HT := Lib.hid HT
              clear hov
              go_wp2
              go_roundg g'
              case measure => omega
              case rel => exact ⟨rfl, j + 1, by rw [w64 (by omega) (by have := hlen.out; omega)]; simp, ⟨by have := hg.out; omega⟩, ⟨HT.out⟩⟩
          have b5 : decide ((j : Int) < ((rd_T64 l i).f1.length : Int)) = false := decide_eq_false (by omega)
          have b8 : decide (j < (rd_T64 l i).f1.length) = false := decide_eq_false hjt
          have hOV := HO.out
          rw [List.take_of_length_le (by omega)] at hOV
          have hk1 := hk.out
          rw [hOV, if_neg (by decide)] at hk1
          have ST1 := Lib.hid (STEP.trans hk1)
          have FTB := takeB l i h0 hltl
          have NTK := Lib.hid (nos_take l i h0 hltl)
          have FT := Lib.hid (fixE_fit _ _ ST1.out)
          have LF := Lib.hid (fills_len (l.take i.toNat) (zerosL 36864) zerosL_len (FIT_take (l := l.take (i + 1).toNat) FT.out i.toNat |> fun h => by rwa [List.take_take, show min i.toNat (i + 1).toNat = i.toNat by omega] at h))
          have FILL : Hid ((l.take (i + 1).toNat).foldl fill (zerosL 36864) = fill ((l.take i.toNat).foldl fill (zerosL 36864)) (rd_T64 l i)) := Lib.hid (by rw [FTB, List.foldl_append]; rfl)
          clear FTB hOV hk1 STEP hk HO hlt hjt
          replace hltl := Lib.hid hltl
          replace h0 := Lib.hid h0
          have AL := Lib.hid fun w hz => All_c A1 c1 (rd_T64 l i).f1 _ rfl w hz (by have := hlen.out; omega) (hR.rng i h0.out hltl.out)
          obtain ⟨OUT, hOUT⟩ : ∃ o, (l.take i.toNat).foldl fill (zerosL 36864) = o := ⟨_, rfl⟩
          rw [hOUT] at R5 LF FILL
          replace FILL := Lib.hid FILL.out
          clear hOUT
          have hfz : wr.frozen? ⟨hs_, (rd_T64 l i).f0.toNat, none⟩ = false := Go.Joins.unfrozen_of_block HS.out _
          have k2 := h2.out
          have k3 := h3.out
          go_wp2
          generalize haa : (rd_T64 l i).f0 * 1024 = a_
          have ha1 : 0 ≤ a_ := by omega
          have ha2 : a_ + 1024 ≤ 36864 := by omega
          have ha_ := Lib.hid (⟨ha1, ha2⟩ : 0 ≤ a_ ∧ a_ + 1024 ≤ 36864)
          have ha3 := Lib.hid (show (1024 * (rd_T64 l i).f0).toNat = a_.toNat by omega)
          clear k2 k3 haa
          obtain ⟨iS, hiS, -, hiS1, -⟩ := info_parts infoStored
          have hcut : ∀ W : World, (Instr.slice 38 (.slice (some ⟨g5, 0, none⟩) 36864 k5) (some (.int .i64 a_)) (some (.int .i64 (wrap64 (a_ + 1024)))) (some (.int .i64 (wrap64 (a_ + 1024))))).run Try.prog W = .ok (.slice (some ⟨g5, a_.toNat, none⟩) 1024 1024) W := by
            intro W
            rw [w64 (n := a_ + 1024) (by omega) (by omega)]
            have := cut3_run (P := Try.prog) 38 54 Try.underlying38 hiS hiS1 g5 36864 k5 a_ (a_ + 1024) ha1 (by omega) (by have := (Kd.R_reads' R5.out).2.1; omega) W
            rw [show (a_ + 1024).toNat - a_.toNat = 1024 by omega] at this
            exact this
          clear hiS hiS1
          have HS2 : Aside0 ((wr.setCell ⟨hs_, (rd_T64 l i).f0.toNat, none⟩ (.bool true)).heap[hs_]? = some (.cells (seenA (nos (l.take (i + 1).toNat))) 70 (0, 0))) := ⟨by rw [Go.Joins.block_setCell HS.out, seenA_set _ _ h2.out h3.out, NTK.out]⟩
          have R52 : Aside0 (Kd.R (Kd.int .u16) 54 (wr.setCell ⟨hs_, (rd_T64 l i).f0.toNat, none⟩ (.bool true)) w.heap.size (fun _ => True) (.slice (some ⟨g5, 0, none⟩) 36864 k5) OUT) := ⟨Kd.R_set R5.out HS.out (by decide) _ _⟩
          have HB2 : Aside0 (Below w.heap.size w (wr.setCell ⟨hs_, (rd_T64 l i).f0.toNat, none⟩ (.bool true))) := ⟨below_set HB.out (by have := hhs.out; omega)⟩
          have HL2 : Aside0 (hs_ < (wr.setCell ⟨hs_, (rd_T64 l i).f0.toNat, none⟩ (.bool true)).heap.size) := ⟨Nat.lt_of_lt_of_le HSl.out (by simp)⟩
          replace hbx1 : (wr.setCell ⟨hs_, (rd_T64 l i).f0.toNat, none⟩ (.bool true)).cell? ⟨hb_, 1, none⟩ = some (.slice A1 (rd_T64 l i).f1.length c1) := (cell_far (W := wr) (p := ⟨hs_, (rd_T64 l i).f0.toNat, none⟩) (a := ⟨hb_, 1, none⟩) (fun h => hne h.symm) (.bool true)).trans hbx1
          clear HS R5 HB HSl hbx0 hsn hfz
          have HS := HS2
          have R5 := R52
          have HB := HB2
          have HSl := HL2
          clear HS2 R52 HB2 HL2
          generalize wr.setCell ⟨hs_, (rd_T64 l i).f0.toNat, none⟩ (.bool true) = wc at HS R5 HB HSl hbx1 ⊢
          refine start_ (n := 11) (S := fun w' => w'.cell? ⟨hb_, 1, none⟩ = some (.slice A1 (rd_T64 l i).f1.length c1)) (ds := [10]) #[false, false, false, false, false, false, false, false, false, false, false] (by kernel_rfl) rfl rfl (hbx1) (fun hHeld => ?_)
          replace R5 := Aside0.mk (Kd.R_drew R5.out)
          replace HS : Aside0 (wc.drew.heap[hs_]? = _) := HS
          replace HSl : Aside0 (hs_ < wc.drew.heap.size) := HSl
          replace HB : Aside0 (Below w.heap.size w wc.drew) := ⟨by repeat (first | (with_reducible first | exact HB.out | apply below_alloc | apply pw_below_drewN | apply below_drew1) | exact HB.out)⟩
          change wc.drew.cell? _ = _ at hbx1
          generalize wc.drew = wd at R5 HS HSl HB hbx1 hHeld ⊢
          refine pure_ (i := 0) (N := some 49) (v := ?_) (a' := ?_) #[true, false, false, false, false, false, false, false, false, false, false] rfl rfl (by kernel_rfl) (fun _ _ _ h => h) (Or.inl ⟨by rfl, ?_⟩) ?_ ?_
          rotate_left
          · intro w'
            go_simp
            with_reducible rfl
          rotate_left
          · simp only [Act.put, List.setIfInBounds_toArray, List.set_cons_zero, List.set_cons_succ, i64_w, i32_w]
            rfl
          refine pure_ (i := 1) (N := some 50) (v := ?_) (a' := ?_) #[true, true, false, false, false, false, false, false, false, false, false] rfl rfl (by kernel_rfl) (fun _ _ _ h => h) (Or.inl ⟨by rfl, ?_⟩) ?_ ?_
          rotate_left
          · intro w'
            go_simp
            with_reducible rfl
          rotate_left
          · simp only [Act.put, List.setIfInBounds_toArray, List.set_cons_zero, List.set_cons_succ, i64_w, i32_w]
            rfl
          refine pure_ (i := 2) (N := some 51) (v := ?_) (a' := ?_) #[true, true, true, false, false, false, false, false, false, false, false] rfl rfl (by kernel_rfl) (fun _ _ _ h => h) (Or.inl ⟨by rfl, ?_⟩) ?_ ?_
          rotate_left
          · intro w'
            go_simp
            with_reducible rfl
          rotate_left
          · simp only [Act.put, List.setIfInBounds_toArray, List.set_cons_zero, List.set_cons_succ, i64_w, i32_w]
            rfl
          refine pure_ (i := 3) (N := some 52) (v := ?_) (a' := ?_) #[true, true, true, true, false, false, false, false, false, false, false] rfl rfl (by kernel_rfl) (fun _ _ _ h => h) (Or.inl ⟨by rfl, ?_⟩) ?_ ?_
          rotate_left
          · intro w'
            go_simp
            with_reducible rfl
          rotate_left
          · simp only [Act.put, List.setIfInBounds_toArray, List.set_cons_zero, List.set_cons_succ, i64_w, i32_w]
            rfl
          refine pure_ (i := 4) (N := some 53) (v := ?_) (a' := ?_) #[true, true, true, true, true, false, false, false, false, false, false] rfl rfl (by kernel_rfl) (fun _ _ _ h => h) (Or.inl ⟨by rfl, ?_⟩) ?_ ?_
          rotate_left
          · intro w'
            go_simp
            with_reducible rfl
          rotate_left
          · simp only [Act.put, List.setIfInBounds_toArray, List.set_cons_zero, List.set_cons_succ, i64_w, i32_w]
            rfl
          refine pure_ (i := 5) (N := some 54) (v := ?_) (a' := ?_) #[true, true, true, true, true, true, false, false, false, false, false] rfl rfl (by kernel_rfl) (fun _ _ _ h => h) (Or.inl ⟨by rfl, ?_⟩) ?_ ?_
          rotate_left
          · intro w'
            go_simp
            with_reducible rfl
          rotate_left
          · simp only [Act.put, List.setIfInBounds_toArray, List.set_cons_zero, List.set_cons_succ, i64_w, i32_w]
            rfl
          refine pure_ (i := 6) (N := some 55) (v := ?_) (a' := ?_) #[true, true, true, true, true, true, true, false, false, false, false] rfl rfl (by kernel_rfl) (fun _ _ _ h => h) (Or.inl ⟨by rfl, ?_⟩) ?_ ?_
          rotate_left
          · intro w'
            go_simp
            with_reducible rfl
          rotate_left
          · simp only [Act.put, List.setIfInBounds_toArray, List.set_cons_zero, List.set_cons_succ, i64_w, i32_w]
            rfl
          refine pure_ (i := 7) (N := some 56) (v := ?_) (a' := ?_) #[true, true, true, true, true, true, true, true, false, false, false] rfl rfl (by kernel_rfl) (fun _ _ _ h => h) (Or.inl ⟨by rfl, ?_⟩) ?_ ?_
          rotate_left
          · intro w'
            go_simp
            with_reducible rfl
          rotate_left
          · simp only [Act.put, List.setIfInBounds_toArray, List.set_cons_zero, List.set_cons_succ, i64_w, i32_w]
            rfl
          refine take_ (i := 8) (N := some 57) (v := ?_) (a' := ?_) #[true, true, true, true, true, true, true, true, true, false, false] rfl rfl (by kernel_rfl) (fun _ _ _ h => h) (Or.inl ⟨by rfl, ?_⟩) hHeld ?_ ?_
          rotate_left
          · intro w' s0
            go_simp
            with_reducible rfl
          rotate_left
          · simp only [Act.put, List.setIfInBounds_toArray, List.set_cons_zero, List.set_cons_succ, i64_w, i32_w]
            rfl
          refine one_ (i := 9) (N := some 58) #[true, true, true, true, true, true, true, true, true, true, false] rfl rfl (by kernel_rfl) (by decide) (fun K hK => ?_)
          refine goes_ Try.func28 (by kernel_rfl) rfl #[.slice A1 (rd_T64 l i).f1.length c1] (by rfl) rfl rfl (by simp only [List.map_toArray, List.map_cons, List.map_nil]; rfl) ?_
          with_reducible refine (AL.out _ (Kd.C_below hC1.out (by repeat (first | (with_reducible first | exact HB.out | apply below_alloc | apply pw_below_drewN | apply below_drew1) | exact HB.out)))).mono ?_
          rintro e w3 ⟨va, rfl, hRa, hba⟩
          refine ⟨_, rfl, ?_⟩
          obtain ⟨Aa, ca, e_, hca, hCa⟩ := Kd.R_reads hRa
          rw [List.length_map] at e_ hCa
          subst e_
          have Ha := Aside0.mk (Kd.reads_of_C (d := (0 : Int)) (enc := Value.int .u16) (h1 := fun _ => rfl) hCa)
          clear hRa hCa
          replace hbx1 := (hba.cell (World.block_lt_of_cell? _ _ hbx1)).trans hbx1
          replace HS := Aside0.mk ((hba.block _ HSl.out).trans HS.out)
          replace HSl := Aside0.mk (Nat.lt_of_lt_of_le HSl.out hba.size)
          replace R5 := Aside0.mk (Kd.R_below R5.out hba)
          have HBn := Aside0.mk (below_step (by repeat (first | (with_reducible first | exact HB.out | apply below_alloc | apply pw_below_drewN | apply below_drew1) | exact HB.out)) hba)
          clear HB hba
          have HB := HBn
          clear HBn
          refine hK.out _ _ (hbx1) (fun hHeld => ?_)
          clear hK K
          refine norm_ (a' := ?_) ?_ ?_
          rotate_left
          · show Act.put _ (some 58) _ = _
            simp only [Act.put, List.setIfInBounds_toArray, List.set_cons_zero, List.set_cons_succ, i64_w, i32_w]
            rfl
          refine last_ (i := 10) (N := some 59) #[true, true, true, true, true, true, true, true, true, true, true] rfl rfl (by kernel_rfl) (by decide) (fun K hK => ?_)
          obtain ⟨g5', k5', e5', _, _, cs5, hb5⟩ := Kd.R_form R5.out (by rw [LF.out]; decide)
          obtain rfl : g5 = g5' := by injection e5' with e5'; injection e5' with e5'; injection e5'
          have hcs : cs5 = cs5.toList.toArray := by simp
          rw [hcs] at hb5
          refine step_copy_splice rfl (.tmp 55) (.tmp 58) 38 38 ?ho 54 Try.underlying38 infoStored1 (some ⟨g5, a_.toNat, none⟩) Aa 1024 1024 (rd_T64 l i).f1.length ca ?hd ?hs g5 a_.toNat cs5.toList 54 hb5 (((rd_T64 l i).f1.map putI).map (Value.int .u16)) ?hn ?hpos ?hfit ?h1 (hs_ + 1) _ (Below.refl _ _) hg5.out ?_
          case ho => rfl
          case hd => rfl
          case hs => rfl
          case hn => rw [List.length_map, List.length_map]; exact (Nat.min_eq_left (by have := hlen.out; omega)).symm
          case hpos => exact fun hp => ⟨rfl, copy_src Ha.out (by simpa using hp)⟩
          case hfit => have := row_len R5.out hb5; rw [List.length_map, List.length_map]; have := hlen.out; have := LF.out; have := ha_.out; omega
          case h1 => exact fun v hv => by obtain ⟨x, _, rfl⟩ := List.mem_map.1 hv; rfl
          intro w9 hg9 hb9
          have n5 := Aside0.mk (row_spliced (a := a_.toNat) (ys := (rd_T64 l i).f1.map putI) R5.out hb5 (by rw [List.length_map, LF.out]; have := hlen.out; have := ha_.out; omega) hg9)
          have nS := Aside0.mk ((hb9.block hs_ (Nat.lt_succ_self _)).trans HS.out)
          have nl := Aside0.mk (Nat.lt_of_lt_of_le HSl.out hb9.size)
          have nB : Aside0 (Below w.heap.size w w9) := ⟨(Below.trans (by repeat (first | (with_reducible first | exact HB.out | apply below_alloc | apply pw_below_drewN | apply below_drew1) | exact HB.out)) (Go.Joins.below_le hb9 (by have := hhs.out; omega)))⟩
          clear R5 HS HSl HB hg9 hb9 hb5 hcs
          have R5 := n5
          have HS := nS
          have HSl := nl
          have HB := nB
          clear n5 nS nl nB
          refine hK.out _ _ ?_
          clear hK K
          refine norm_ (a' := ?_) ?_ ?_
          rotate_left
          · show Act.put _ (some 59) _ = _
            simp only [Act.put, List.setIfInBounds_toArray, List.set_cons_zero, List.set_cons_succ, i64_w, i32_w]
            rfl
          refine done_ (by kernel_rfl) ?_

          have hi0 := h0.out
          have hi1 := hltl.out
          have hlen1 := hlen.out
          rw [List.length_map] at R5
          go_wp2
          go_roundg g
          case measure => omega
          case rel => exact ⟨i + 1, rfl, by omega, ⟨by have := hg0.out; omega⟩, ⟨ST1.out⟩, ⟨HS.out⟩, ⟨HSl.out⟩, ⟨by rw [FILL.out]; unfold fill; rw [ha3.out]; exact R5.out⟩, ⟨HB.out⟩⟩
    · have hi : i = n := by have := hg.out; omega
      have b0 : decide (i < (n : Int)) = false := decide_eq_false hlt
      subst hi
      rw [Int.toNat_natCast, List.take_of_length_le (by omega)] at HE R5
      rw [HE.out] at her
      have NF : fixL l = l.foldl fill (zerosL 36864) := by unfold fixL; rw [HE.out, if_pos rfl]
      rw [NF] at hrr
      go_wp2
      go_ret2
      exact ⟨_, by rw [← her.out]; rfl, by rw [← hrr.out]; exact R5.out, HB.out⟩
theorem Fixed_c (A : Option Addr) (c : Nat) (l : List S64) (n : Nat) (e0 : l.length = n) (hn : n ≤ 40) (w : World) (hr : Kd.C k64 w A n l) (hR : RNB l) :
    Calls Try.prog 30 #[.slice A n c] w fun e w' => ∃ v, e = .returned (.tuple #[v, .int .i64 (fixE l [])]) ∧ Kd.R (Kd.int .u16) 54 w' w.heap.size (fun _ => True) v (fixL l) ∧ Below w.heap.size w w' :=
  Fixed_w A c l n e0 hn w hr hR _ _ rfl rfl
theorem fixL_len (l : List S64) : (fixL l).length ≤ 36864 := by
  unfold fixL
  by_cases h : fixE l [] = 0
  · rw [if_pos h, fills_len l (zerosL 36864) zerosL_len (fixE_fit l [] h)]; exact Nat.le_refl _
  · rw [if_neg h]; exact Nat.zero_le _
theorem infoBank : (Try.prog.info? 64).map (fun i => (i.zero, i.size, i.bytes)) = some (some (.agg #[.int .i64 0, .slice none 0 0]), 2, 32) := by kernel_rfl
set_option maxHeartbeats 4000000 in
theorem fixed_calls (A0 : Option Addr) (c0 : Nat) (l0 : List S64) (w : World) (hr0 : Kd.C k64 w A0 l0.length l0) (hc0 : l0.length ≤ c0) (hb0 : RNB l0) :
    Calls Try.prog 8 #[.slice A0 l0.length c0] w fun e w' => e = .returned (.bool true) ∧ Below w.heap.size w w' := by
  have HB := Aside0.mk (Below.refl w.heap.size w)
  obtain ⟨i3, hi3⟩ := info_some infoBank
  obtain ⟨j0, m0, hj0, a00, a01, hm0, hmc0, hq0, hcut0, hC0⟩ := cut_any k64 59 64 Try.underlying59 hi3 A0 c0 l0 hc0 40 (by decide) w hr0
  have hbm0 : RNB m0 := by rw [hq0]; exact fun b hb => hb0 b (List.mem_of_mem_take hb)
  clear hr0 hb0 hi3 hq0
  replace hC0 := Aside0.mk hC0
  have FX := Lib.hid fun w h0 => Fixed_c A0 c0 m0 m0.length rfl (by omega) w h0 hbm0
  have FR := Lib.hid fun w h0 => refFixed_c A0 c0 m0 m0.length rfl (by omega) w h0 hmc0 hbm0
  have LL := Lib.hid (show (fixL m0).length ≤ 140737488351232 by have := fixL_len m0; omega)
  generalize fixE m0 [] = er at FX FR
  generalize fixL m0 = rl at FX FR LL
  have hn2 : (er == er) = true := beq_self_eq_true _
  have a0 := eq_true a00
  have a1 := eq_true a01
  replace hbm0 := Lib.hid hbm0
  go_enter Try.func8, Try.ntmps8
  go_wp2_with (first | (go_at_call 30; (with_reducible refine at_args #[.slice A0 _ c0] ?_); (with_reducible refine (FX.out _ (Kd.C_below hC0.out (by repeat (first | (with_reducible first | exact HB.out | apply below_alloc | apply pw_below_drewN | apply below_drew1) | exact HB.out)))).mono ?_); rintro e w' ⟨vp, rfl, hRp, hbp⟩; obtain ⟨Ap, cp, rfl, hcp, hCp⟩ := Kd.R_reads hRp; have Hp := Aside0.mk hCp; clear hRp hCp; have HBn := Aside0.mk (below_step (by repeat (first | (with_reducible first | exact HB.out | apply below_alloc | apply pw_below_drewN | apply below_drew1) | exact HB.out)) hbp); clear HB hbp; have HB := HBn; clear HBn) | (go_at_call 31; (with_reducible refine at_args #[.slice A0 _ c0] ?_); (with_reducible refine (FR.out _ (Kd.C_below hC0.out (by repeat (first | (with_reducible first | exact HB.out | apply below_alloc | apply pw_below_drewN | apply below_drew1) | exact HB.out)))).mono ?_); rintro e w' ⟨vq, rfl, hRq, hbq⟩; obtain ⟨Aq, cq, rfl, hcq, hCq⟩ := Kd.R_reads hRq; have Hq := Aside0.mk hCq; clear hRq hCq; replace Hp := Aside0.mk (by first | exact Kd.C_below Hp.out hbq | exact Kd.C_below (Kd.C_drewN Hp.out _) hbq); have HBn := Aside0.mk (below_step (by repeat (first | (with_reducible first | exact HB.out | apply below_alloc | apply pw_below_drewN | apply below_drew1) | exact HB.out)) hbq); clear HB hbq; have HB := HBn; clear HBn) | (go_at_call 22; (with_reducible refine at_args #[.slice Ap _ cp, .slice Aq _ cq] ?_); (with_reducible refine (Same_c Ap cp Aq cq rl _ _ rfl rfl _ (by (with_reducible repeat (first | apply Kd.C_alloc | apply Kd.C_drewN | apply Kd.C_drew)); exact Hp.out) hcp (by (with_reducible repeat (first | apply Kd.C_alloc | apply Kd.C_drewN | apply Kd.C_drew)); exact Hq.out) hcq LL.out).mono ?_); rintro e w' ⟨rfl, ⟨nd, rfl⟩⟩) | (go_at_call 32; (with_reducible refine at_args #[] ?_); (with_reducible refine (Erasable_c _).mono ?_); rintro e w' ⟨vr, rfl, hRr, hbr⟩; obtain ⟨Ar, cr, rfl, hcr, hCr⟩ := Kd.R_reads hRr; have Hr := Aside0.mk hCr; clear hRr hCr; replace Hp := Aside0.mk (by first | exact Kd.C_below Hp.out hbr | exact Kd.C_below (Kd.C_drewN Hp.out _) hbr); replace Hq := Aside0.mk (by first | exact Kd.C_below Hq.out hbr | exact Kd.C_below (Kd.C_drewN Hq.out _) hbr); have HBn := Aside0.mk (below_step (by repeat (first | (with_reducible first | exact HB.out | apply below_alloc | apply pw_below_drewN | apply below_drew1) | exact HB.out)) hbr); clear HB hbr; have HB := HBn; clear HBn) | (go_at_call 33; (with_reducible refine at_args #[] ?_); (with_reducible refine (refErasable_c _).mono ?_); rintro e w' ⟨vs, rfl, hRs, hbs⟩; obtain ⟨As, cs, rfl, hcs, hCs⟩ := Kd.R_reads hRs; have Hs := Aside0.mk hCs; clear hRs hCs; replace Hp := Aside0.mk (by first | exact Kd.C_below Hp.out hbs | exact Kd.C_below (Kd.C_drewN Hp.out _) hbs); replace Hq := Aside0.mk (by first | exact Kd.C_below Hq.out hbs | exact Kd.C_below (Kd.C_drewN Hq.out _) hbs); replace Hr := Aside0.mk (by first | exact Kd.C_below Hr.out hbs | exact Kd.C_below (Kd.C_drewN Hr.out _) hbs); have HBn := Aside0.mk (below_step (by repeat (first | (with_reducible first | exact HB.out | apply below_alloc | apply pw_below_drewN | apply below_drew1) | exact HB.out)) hbs); clear HB hbs; have HB := HBn; clear HBn) | (go_at_call 22; (with_reducible refine at_args #[.slice Ar _ cr, .slice As _ cs] ?_); (with_reducible refine (Same_c Ar cr As cs (zerosL 2048) _ _ rfl rfl _ (by (with_reducible repeat (first | apply Kd.C_alloc | apply Kd.C_drewN | apply Kd.C_drew)); exact Hr.out) hcr (by (with_reducible repeat (first | apply Kd.C_alloc | apply Kd.C_drewN | apply Kd.C_drew)); exact Hs.out) hcs (by decide +kernel)).mono ?_); rintro e w' ⟨rfl, ⟨nd, rfl⟩⟩) | (go_at_call 16; (with_reducible refine at_args #[] ?_); (with_reducible refine (works_c _).mono ?_); rintro e w' ⟨rfl, hbw⟩; have HBn := Aside0.mk (below_step (by repeat (first | (with_reducible first | exact HB.out | apply below_alloc | apply pw_below_drewN | apply below_drew1) | exact HB.out)) hbw); clear HB hbw; have HB := HBn; clear HBn))
  go_ret
  exact ⟨rfl, by repeat (first | (with_reducible first | exact HB.out | apply below_alloc | apply pw_below_drewN | apply below_drew1) | exact HB.out)⟩
theorem fixed_law (a0 : Option Addr) (len0 cap0 : Nat) (z0 : List S64) (w : World) (e0 : z0.length = len0) (c0 : len0 ≤ cap0) (w0 : Kd.C k64 w a0 len0 z0) (b0 : ∀ y ∈ z0, (Lit.int .i64 y.f0).wf = true ∧ (y.f1.length ≤ maxLen ∧ ∀ x ∈ y.f1, (Lit.int .u16 x).wf = true)) (y0 : len0 * 32 ≤ 140737488351232) :
    Calls Try.prog 8 #[.slice a0 len0 cap0] w fun e w' => e = .returned (.bool true) ∧ Below w.heap.size w w' := by
  subst e0
  exact fixed_calls a0 cap0 z0 w w0 c0 (fun b hb x hx => by obtain ⟨n, hn, h⟩ := wf16 ((b0 b hb).2.2 x hx); omega)
end Go.Proofs.Ytllmmgjmkgiodaa.Mem
