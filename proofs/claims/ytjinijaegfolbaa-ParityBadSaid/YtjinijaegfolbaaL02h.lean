/- The walk of ParityBad: it returns true; no condition but the reach and the kinds. -/
import Derived.Test.YtjinijaegfolbaaL02f
namespace Go.Proofs.Ytjinijaegfolbaa.L02
open Go.RowKit Go.Proofs.Ytjinijaegfolbaa.PAll Go.Proofs.YtjinijaegfolbaaW.PrintWords Go.Proofs.YtjinijaegfolbaaW.PrintLast Go.Proofs.YtjinijaegfolbaaW.PrintMore Go.Proofs.Ytjinijaegfolbaa.Plain
set_option linter.unusedVariables false
set_option linter.unusedSimpArgs false
/-- The stored words stand in their ranges, and their parity is wrong just where the flag is set. -/
def Inv (mm : List Int) (od : List Bool) (n : Nat) : Prop := mm.length = n ∧ od.length = n ∧ ∀ j : Nat, j < n → (0 ≤ mm.getD j 0 ∧ mm.getD j 0 < 65536) ∧ ob16 (mm.getD j 0) = !(od.getD j false)
theorem inv_start (l : List Int) (h : ∀ x ∈ l, (Lit.int .u16 x).wf = true) : Inv (l.map putI) (List.replicate l.length false) l.length := by
  refine ⟨List.length_map _, List.length_replicate, fun j hj => ?_⟩
  rw [List.getD_eq_getElem?_getD, List.getElem?_map, List.getElem?_eq_getElem hj, List.getD_eq_getElem?_getD, List.getElem?_replicate, if_pos hj]
  exact ⟨put_range _, put_odd _⟩
theorem tdivp' {x : Int} (h : 0 ≤ x) (m : Int) : Int.tdiv x m = x / m := Int.tdiv_eq_ediv_of_nonneg h
theorem getD_set {α : Type} (l : List α) (q j : Nat) (v d : α) (hq : q < l.length) : (l.set q v).getD j d = if q = j then v else l.getD j d := by
  rw [List.getD_eq_getElem?_getD, List.getElem?_set, List.getD_eq_getElem?_getD]
  by_cases c : q = j
  · rw [if_pos c, if_pos hq, if_pos c]; rfl
  · rw [if_neg c, if_neg c]
theorem inv_step {mm : List Int} {od : List Bool} {n : Nat} (h : Inv mm od n) (q : Nat) (hq : q < n) (b : Int) (b0 : 0 ≤ b) (b1 : b ≤ 15) : Inv (mm.set q (flI (mm.getD q 0) b)) (od.set q (!(od.getD q false))) n := by
  obtain ⟨h1, h2, h3⟩ := h
  refine ⟨by rw [List.length_set, h1], by rw [List.length_set, h2], fun j hj => ?_⟩
  rw [getD_set mm q j _ 0 (by omega), getD_set od q j _ false (by omega)]
  by_cases c : q = j
  · subst c
    rw [if_pos rfl, if_pos rfl]
    have h4 := h3 q hq
    exact ⟨fl_range _ b h4.1.1 h4.1.2, by rw [ob16_flip _ b h4.1.1 h4.1.2 b0 b1, h4.2]⟩
  · rw [if_neg c, if_neg c]
    exact h3 j hj
theorem inv_wf {mm : List Int} {od : List Bool} {n : Nat} (h : Inv mm od n) : ∀ x ∈ mm, (Lit.int .u16 x).wf = true := by
  intro x hx
  obtain ⟨j, hj, rfl⟩ := List.getElem_of_mem hx
  have h3 := (h.2.2 j (by have := h.1; omega)).1
  rw [List.getD_eq_getElem?_getD, List.getElem?_eq_getElem hj] at h3
  simp only [Option.getD_some] at h3
  simp [Lit.wf, IntKind.min, IntKind.max, IntKind.signed, IntKind.bits]; omega
theorem inv_bads {mm : List Int} {od : List Bool} {n : Nat} (h : Inv mm od n) (hf : ∀ j, j < n → od.getD j false = false) : bads mm n = [] := by
  unfold bads
  have : (List.range n).filter (fun j : Nat => !ob16 (rd mm (j : Int))) = [] := by
    rw [List.filter_eq_nil_iff]
    intro j hj
    rw [List.mem_range] at hj
    have h3 := (h.2.2 j hj).2
    rw [hf j hj] at h3
    unfold rd; rw [Int.toNat_natCast, h3]; simp
  rw [this]; rfl
theorem bads_pre (mm : List Int) (i : Nat) : ∀ d, ∃ r, bads mm (i + d) = bads mm i ++ r
  | 0 => ⟨[], by simp⟩
  | d + 1 => by
    obtain ⟨r, hr⟩ := bads_pre mm i d
    cases hb : ob16 (rd mm ((i + d : Nat) : Int)) with
    | true => exact ⟨r, by rw [← Nat.add_assoc, bads_no mm _ hb, hr]⟩
    | false => exact ⟨r ++ [((i + d : Nat) : Int)], by rw [← Nat.add_assoc, bads_yes mm _ hb, hr, List.append_assoc]⟩
theorem bads_at (mm : List Int) (i n : Nat) (hi : i < n) (hb : ob16 (rd mm (i : Int)) = false) : (bads mm i).length < (bads mm n).length ∧ rd (bads mm n) ((bads mm i).length : Int) = i := by
  obtain ⟨r, hr⟩ := bads_pre mm (i + 1) (n - (i + 1))
  rw [show i + 1 + (n - (i + 1)) = n by omega, bads_yes mm i hb, List.append_assoc] at hr
  rw [hr]
  refine ⟨by simp, ?_⟩
  unfold rd
  rw [Int.toNat_natCast, List.getD_eq_getElem?_getD, List.getElem?_append_right (Nat.le_refl _)]; simp
theorem info22 : (Try.prog.info? 22).map (fun i => (i.zero, i.size, i.bytes)) = some (some (.int .u16 0), 1, 2) := by kernel_rfl
theorem info4 : (Try.prog.info? 4).map (fun i => (i.zero, i.size, i.bytes)) = some (some (.bool false), 1, 1) := by kernel_rfl
theorem Bad_cn (A : Option Addr) (c : Nat) (zs : List Int) (n : Nat) (e : zs.length = n) (hreach : zs.length * 8 ≤ 140737488351232) (hz : ∀ x ∈ zs, (Lit.int .u16 x).wf = true) (w : World) (hr : Kd.C (Kd.int .u16) w A zs.length zs) :
    Calls Try.prog 20 #[.slice A n c] w fun e W' => ∃ v, e = .returned v ∧ Kd.R (Kd.int .i64) 3 W' w.heap.size (fun _ => True) v (bads zs zs.length) ∧ Below w.heap.size w W' := by
  subst e; exact Bad_c A c zs hreach hz w hr
theorem Flip_q (x j : Int) (h0 : 0 ≤ x) (h1 : x < 65536) (j0 : 0 ≤ j) (j1 : j ≤ 15) (w : World) (n : Nat) : Calls Try.prog 9 #[.int .u16 x, .int .i64 j] (w.drewN n) fun e w'' => e = .returned (.tuple #[.int .u16 (flI x j), .int .i64 0]) ∧ ∃ m, w'' = w.drewN m := by
  refine Calls.quiet_of ?_
  have h := Flip_c x j h0 h1 (w.drewN n)
  rw [fe_ok j j0 j1] at h
  exact h.mono fun e w' ⟨he, ⟨hm⟩⟩ => ⟨he, hm⟩
set_option maxHeartbeats 4000000 in
theorem bad_calls (A0 : Option Addr) (c0 : Nat) (l0 : List Int) (A1 : Option Addr) (c1 : Nat) (l1 : List Int) (w : World) (hr0 : Kd.C (Kd.int .u16) w A0 l0.length l0) (hc0 : l0.length ≤ c0) (hb0 : ∀ x ∈ l0, (Lit.int .u16 x).wf = true)
    (hr1 : Kd.C (Kd.int .u16) w A1 l1.length l1) (hc1 : l1.length ≤ c1) (hb1 : ∀ x ∈ l1, (Lit.int .u16 x).wf = true) :
    Calls Try.prog 7 #[.slice A0 l0.length c0, .slice A1 l1.length c1] w fun e w' => e = .returned (.bool true) ∧ Below w.heap.size w w' := by
  have HB := Aside0.mk (Below.refl w.heap.size w)
  obtain ⟨i3, hi3, _, hs3, _⟩ := info_parts info23
  obtain ⟨i4, hi4, _, hs4, _⟩ := info_parts info22
  obtain ⟨j0, m0, hj0, a00, a01, hm0, hmc0, -, hcut0, hC0, hbm0⟩ := cut_in .u16 39 23 Try.underlying39 hi3 hs3 A0 c0 l0 hc0 300 (by decide) w hr0 hb0
  obtain ⟨j1, m1, hj1, a10, a11, hm1, hmc1, -, hcut1, hC1, hbm1⟩ := cut_in .u16 48 22 Try.underlying48 hi4 hs4 A1 c1 l1 hc1 300 (by decide) w hr1 hb1
  clear hr0 hr1 hb0 hb1 hi3 hi4 hs3 hs4
  replace hC0 := Aside0.mk hC0
  replace hC1 := Aside0.mk hC1
  have hCw := hC1
  have INV := Lib.hid (inv_start m0 hbm0)
  replace hbm0 := Lib.hid hbm0
  replace hbm1 := Lib.hid hbm1
  have hwp := Lib.hid (inv_wf INV.out)
  have hbe := Lib.hid (show bads (m0.map putI) (m0.map putI).length = [] by rw [List.length_map]; exact inv_bads INV.out (fun j hj => by rw [List.getD_eq_getElem?_getD, List.getElem?_replicate, if_pos hj]; rfl))
  have a0 := eq_true a00
  have a1 := eq_true a01
  have a2 := eq_true a10
  have a3 := eq_true a11
  go_enter Try.func7, Try.ntmps7
  go_wp2
  go_quiet (fail)
  clear hcut0 hcut1 a0 a1 a2 a3 a00 a01 a10 a11 hj0 hj1
  go_wp2_with (first | (go_at_call 19; (with_reducible refine at_args #[.slice A0 _ c0] ?_); (with_reducible refine (All_c A0 c0 m0 _ (by (with_reducible repeat (first | apply Kd.C_alloc | apply Kd.C_drewN | apply Kd.C_drew)); exact hC0.out) hmc0 (by omega) hbm0.out).mono ?_); rintro e w' ⟨va, rfl, hR, hb⟩; obtain ⟨A5, c5, rfl⟩ := Kd.R_slice hR; have R5 := Aside0.mk (Kd.R_lower (base' := w.heap.size) hR (below_size (by repeat (first | (with_reducible first | exact HB.out | apply below_alloc | apply pw_below_drewN | apply below_drew1) | exact HB.out)))); clear hR; replace hC0 := Aside0.mk (by first | exact Kd.C_below hC0.out hb | exact Kd.C_below (Kd.C_drewN hC0.out _) hb); replace hC1 := Aside0.mk (by first | exact Kd.C_below hC1.out hb | exact Kd.C_below (Kd.C_drewN hC1.out _) hb); have HBn := Aside0.mk (below_step (by repeat (first | (with_reducible first | exact HB.out | apply below_alloc | apply pw_below_drewN | apply below_drew1) | exact HB.out)) hb); clear HB hb; have HB := HBn; clear HBn) | (go_at_call 20; (with_reducible refine at_args #[.slice A5 _ c5] ?_); refine (Bad_cn A5 c5 (m0.map putI) _ (List.length_map _) (by rw [List.length_map]; omega) hwp.out _ (Kd.R_reads' (Kd.R_drewN R5.out 0)).2.2).mono ?_; rintro e w' ⟨vb, rfl, hR, hb⟩; rw [hbe.out] at hR; obtain ⟨Ab, cb, rfl⟩ := Kd.R_slice hR; replace R5 := Aside0.mk (Kd.R_below R5.out hb); clear hR; replace hC0 := Aside0.mk (by first | exact Kd.C_below hC0.out hb | exact Kd.C_below (Kd.C_drewN hC0.out _) hb); replace hC1 := Aside0.mk (by first | exact Kd.C_below hC1.out hb | exact Kd.C_below (Kd.C_drewN hC1.out _) hb); have HBn := Aside0.mk (below_step (by repeat (first | (with_reducible first | exact HB.out | apply below_alloc | apply pw_below_drewN | apply below_drew1) | exact HB.out)) hb); clear HB hb; have HB := HBn; clear HBn) | (at_make; refine Kd.R_make Kd.bool (w0 := w) w.heap.size 4 rfl (N := 39) rfl 49 (.tmp 38) (.tmp 38) rfl (m0.length : Int) rfl rfl Try.underlying49 (.bool false) 1 info4 rfl (by decide) (by decide) false (ok := fun _ => True) (okp := fun _ => True) ?hzero (fun _ _ => trivial) trivial (by omega) ?hl ?hHB ?hbase ?_; (case hzero => rfl); (case hl => omega); (case hHB => repeat (first | (with_reducible first | exact HB.out | apply below_alloc | apply pw_below_drewN | apply below_drew1) | exact HB.out)); (case hbase => exact below_size (by repeat (first | (with_reducible first | exact HB.out | apply below_alloc | apply pw_below_drewN | apply below_drew1) | exact HB.out))); intro v6 w6 hR hb hg _; rw [Int.toNat_natCast] at hR; obtain ⟨A6, c6, rfl⟩ := Kd.R_slice hR; have R6 := Aside0.mk hR; have hbW := pw_below_grown (Below.refl _ _) none (Nat.le_refl _) hg (fun k hk => by cases hk); replace R5 := Aside0.mk (Kd.R_below R5.out hbW); replace hC0 := Aside0.mk (by first | exact Kd.C_below hC0.out hbW | exact Kd.C_below (Kd.C_drewN hC0.out _) hbW); replace hC1 := Aside0.mk (by first | exact Kd.C_below hC1.out hbW | exact Kd.C_below (Kd.C_drewN hC1.out _) hbW); clear HB hR hg hbW; have HB := Aside0.mk hb; clear hb))
  clear hbe hwp hbm0
  have W6 := Lib.hid (Eq.refl m0.length)
  go_loopg [7] m1.length (fun g v7 w' => ∃ (i : Int) (mm : List Int) (od : List Bool), v7 = .int .i64 i ∧ 0 ≤ i ∧ Aside0 (i + g = m1.length ∨ m0.length = 0) ∧ Aside0 (Inv mm od m0.length) ∧ Aside0 (Kd.R (Kd.int .u16) 24 w' w.heap.size (fun _ => True) (.slice A5 m0.length c5) mm) ∧ Aside0 (Kd.R Kd.bool 4 w' w.heap.size (fun _ => True) (.slice A6 m0.length c6) od) ∧ Aside0 (Below w.heap.size w w'))
  case atStart => exact ⟨0, m0.map putI, List.replicate m0.length false, rfl, by decide, ⟨.inl (by omega)⟩, ⟨INV.out⟩, ⟨by have h := R5.out; rw [List.length_map] at h; exact h⟩, ⟨by have h := R6.out; rw [List.length_replicate] at h; exact h⟩, ⟨HB.out⟩⟩
  case round =>
    clear R5 R6 INV hC0 hC1 HB
    obtain ⟨i, mm, od, rfl, h0, hg, INV, R5, R6, HB⟩ := hrel
    by_cases hx : i < (m1.length : Int) ∧ 0 < m0.length
    · obtain ⟨hlt, hn⟩ := hx
      obtain ⟨g, rfl⟩ : ∃ g, gk = g + 1 := ⟨gk - 1, by have := hg.out; omega⟩
      obtain ⟨hl5, hl6, hin⟩ := INV.out
      have b0 : decide (i < (m1.length : Int)) = true := decide_eq_true hlt
      have b1 : decide (0 < m0.length) = true := decide_eq_true hn
      have b2 : ((m0.length : Int) == 0) = false := by rw [beq_eq_false_iff_ne]; omega
      obtain ⟨ad1, eA, hx1⟩ := Kd.at_int (Kd.C_below hCw.out HB.out) i h0 hlt
      cases eA
      have hrd := rd_range m1 hbm1.out i h0 hlt
      obtain ⟨y, hy⟩ : ∃ y, rd m1 i = y := ⟨_, rfl⟩
      rw [hy] at hx1 hrd
      obtain ⟨y0, y1⟩ := hrd
      have t1 : Int.tdiv y 16 = y / 16 := tdivp' y0 16
      have t2 : Int.tmod (y / 16) (m0.length : Int) = y / 16 % (m0.length : Int) := Int.tmod_eq_emod_of_nonneg (by omega)
      have q0 : 0 ≤ y / 16 % (m0.length : Int) := Int.emod_nonneg _ (by omega)
      have q1 : y / 16 % (m0.length : Int) < (m0.length : Int) := Int.emod_lt_of_pos _ (by omega)
      obtain ⟨q, hq⟩ : ∃ q, y / 16 % (m0.length : Int) = q := ⟨_, rfl⟩
      rw [hq] at t2 q0 q1
      have t3 : Int.tmod y 16 = y % 16 := Int.tmod_eq_emod_of_nonneg y0
      clear hy
      obtain ⟨g5, k5, e5, _, hlt5, cs5, hb5⟩ := Kd.R_form R5.out (by omega)
      obtain rfl : A5 = some ⟨g5, 0, none⟩ := by injection e5
      obtain ⟨g6, k6, e6, _, hlt6, cs6, hb6⟩ := Kd.R_form R6.out (by omega)
      obtain rfl : A6 = some ⟨g6, 0, none⟩ := by injection e6
      have hc5 := Kd.R_celln (0 : Int) R5.out q q0 q1
      have hc6 := Kd.R_celln false R6.out q q0 q1
      replace hl5 := Lib.hid hl5
      replace hl6 := Lib.hid hl6
      replace hin := Lib.hid hin
      clear e5 e6
      obtain ⟨hx5, hf5⟩ := hc5
      obtain ⟨hx6, hf6⟩ := hc6
      replace hb5 := Lib.hid hb5
      replace hb6 := Lib.hid hb6
      have F1 := Lib.hid (Flip_q (rd mm q) (y % 16))
      have hge5 := Lib.hid (Kd.R_base R5.out g5 rfl)
      have hge6 := Lib.hid (Kd.R_base R6.out g6 rfl)
      have hv := (hin.out q.toNat (by omega)).1
      have z0 : 0 ≤ y % 16 := by omega
      have z1 : y % 16 ≤ 15 := by omega
      have hne : g6 ≠ g5 := blk_ne hb6.out hb5.out (by decide)
      have hx6' : ∀ (n : Nat) (u : Value), ((wr.drewN n).setCell ⟨g5, q.toNat, none⟩ u).cell? ⟨g6, q.toNat, none⟩ = some (.bool (rdOf false od q)) := fun n u => (cell_far (W := wr.drewN n) (p := ⟨g5, q.toNat, none⟩) (a := ⟨g6, q.toNat, none⟩) hne u).trans hx6
      have hrr : rd mm q = mm.getD q.toNat 0 := rfl
      have hrb : rdOf false od q = od.getD q.toNat false := rfl
      have INV' := Lib.hid (inv_step INV.out q.toNat (by omega) (y % 16) z0 z1)
      rw [← hrr, ← hrb] at INV'
      clear hrr hrb
      go_wp2
      go_quiet ((go_at_call 9; exact F1.out hv.1 hv.2 z0 z1 _ _))
      go_wp2
      have n5 : Aside0 (Kd.R (Kd.int .u16) 24 ((wr.drewN nq).setCell ⟨g5, q.toNat, none⟩ (.int .u16 (flI (rd mm q) (y % 16)))) w.heap.size (fun _ => True) (.slice (some ⟨g5, 0, none⟩) m0.length c5) (mm.set q.toNat (flI (rd mm q) (y % 16)))) := ⟨Kd.R_putn (enc := Value.int .u16) (Kd.R_drewN R5.out _) q _⟩
      have n6 : Aside0 (Kd.R Kd.bool 4 ((wr.drewN nq).setCell ⟨g5, q.toNat, none⟩ (.int .u16 (flI (rd mm q) (y % 16)))) w.heap.size (fun _ => True) (.slice (some ⟨g6, 0, none⟩) m0.length c6) od) := ⟨Kd.R_set (Kd.R_drewN R6.out _) hb5.out (by decide) _ _⟩
      go_roundg g
      case measure => omega
      case rel => exact ⟨i + 1, _, _, rfl, by omega, ⟨by rcases hg.out with h | h <;> omega⟩, ⟨INV'.out⟩, ⟨by
          have hb6' := hb6.out
          refine Kd.R_set n5.out (g := g6) (t := 4) (cells := cs6) ?_ (by decide) _ _
          exact (Below.heap_setCell _ _ _ g6 hne).trans hb6'⟩, ⟨Kd.R_putn (enc := Value.bool) n6.out q _⟩, ⟨below_set (below_set (pw_below_drewN HB.out _) hge5.out) hge6.out⟩⟩
    · obtain ⟨hl5, hl6, hin⟩ := INV.out
      have hwf := Lib.hid (inv_wf INV.out)
      have hin' := Lib.hid hin
      clear hin
      have e5 := Lib.hid hl5
      have e6 := Lib.hid hl6
      clear hl5 hl6
      have H6 : Aside0 (Kd.C Kd.bool wr A6 od.length od) := ⟨(Kd.R_reads' R6.out).2.2⟩
      have H5 : Aside0 (Kd.C (Kd.int .u16) wr A5 mm.length mm) := ⟨(Kd.R_reads' R5.out).2.2⟩
      have hlm : Aside0 (mm.length * 8 ≤ 140737488351232) := ⟨by have := e5.out; omega⟩
      obtain ⟨bl, hbl, bn, hbn, hbx⟩ : ∃ bl, decide (i < (m1.length : Int)) = bl ∧ ∃ bn, decide (0 < m0.length) = bn ∧ (bl && bn) = false := ⟨_, rfl, _, rfl, by
        by_cases c : i < (m1.length : Int)
        · have : ¬ 0 < m0.length := fun h => hx ⟨c, h⟩
          rw [decide_eq_false this]; simp
        · rw [decide_eq_false c]; rfl⟩
      clear hx R5 R6 hg INV
      cases bl <;> cases bn
      all_goals first | exact absurd hbx (by decide) | skip
      all_goals clear hbx
      all_goals
        go_wp2_with ((go_at_call 20; (with_reducible refine at_args #[.slice A5 _ c5] ?_); refine (Bad_cn A5 c5 mm _ e5.out hlm.out hwf.out _ (by (with_reducible repeat (first | apply Kd.C_alloc | apply Kd.C_drewN | apply Kd.C_drew)); exact H5.out)).mono ?_; rintro e w' ⟨vb, rfl, hR, hb⟩; rw [e5.out] at hR; obtain ⟨A7, c7, rfl, hc7, hC7⟩ := Kd.R_reads hR; have H7 := Aside0.mk hC7; clear hR hC7; replace H6 := Aside0.mk (by first | exact Kd.C_below H6.out hb | exact Kd.C_below (Kd.C_drewN H6.out _) hb); have HBn := Aside0.mk (below_step (by repeat (first | (with_reducible first | exact HB.out | apply below_alloc | apply pw_below_drewN | apply below_drew1) | exact HB.out)) hb); clear HB hb; have HB := HBn; clear HBn))
        go_loopg [12, 13] m0.length (fun g v12 v13 w' => ∃ i : Nat, v12 = .int .i64 ((bads mm i).length : Int) ∧ v13 = .int .i64 (i : Int) ∧ Aside0 (i + g = m0.length) ∧ Aside0 (Kd.C (Kd.int .i64) w' A7 (bads mm m0.length).length (bads mm m0.length)) ∧ Aside0 (Kd.C Kd.bool w' A6 od.length od) ∧ Aside0 (Below w.heap.size w w'))
        case atStart => exact ⟨0, rfl, rfl, ⟨by omega⟩, ⟨by (with_reducible repeat (first | apply Kd.C_alloc | apply Kd.C_drewN | apply Kd.C_drew)); exact H7.out⟩, ⟨by (with_reducible repeat (first | apply Kd.C_alloc | apply Kd.C_drewN | apply Kd.C_drew)); exact H6.out⟩, ⟨by repeat (first | (with_reducible first | exact HB.out | apply below_alloc | apply pw_below_drewN | apply below_drew1) | exact HB.out)⟩⟩
        case round =>
          clear HB H6 H7
          obtain ⟨j, rfl, rfl, hg, H7, H6, HB⟩ := hrel
          have hg' := hg.out
          by_cases hlt : j < m0.length
          · obtain ⟨g, rfl⟩ : ∃ g, gk = g + 1 := ⟨gk - 1, by omega⟩
            clear hg'
            have b0 : decide ((j : Int) < (m0.length : Int)) = true := decide_eq_true (by omega)
            have b0' : decide (j < m0.length) = true := decide_eq_true hlt
            obtain ⟨ad6, eA6, hx6⟩ := Kd.at_bool H6.out (j : Int) (by omega) (by have := e6.out; omega)
            cases eA6
            rw [Int.toNat_natCast] at hx6
            have hij := (hin'.out j hlt).2
            have hjl := bads_length mm j
            cases hb : od.getD j false with
            | true =>
              rw [hb] at hij
              have hij2 : ob16 (rd mm (j : Int)) = false := by unfold rd; rw [Int.toNat_natCast, hij]; rfl
              have hat := bads_at mm j m0.length hlt hij2
              have hbs := Lib.hid (show ((bads mm (j + 1)).length : Int) = (bads mm j).length + 1 by rw [bads_yes mm j hij2, List.length_append]; simp)
              rw [show rdOf false od (j : Int) = true by unfold rdOf; rw [Int.toNat_natCast]; exact hb] at hx6
              obtain ⟨ad7, eA7, hx7⟩ := Kd.at_int H7.out ((bads mm j).length : Int) (by omega) (by omega)
              cases eA7
              rw [Int.toNat_natCast, hat.2] at hx7
              have hkl := hat.1
              have b1 : (((bads mm j).length : Int) == ((bads mm m0.length).length : Int)) = false := beq_eq_false_iff_ne.mpr (by omega)
              have b2 : ((bads mm j).length == (bads mm m0.length).length) = false := beq_eq_false_iff_ne.mpr (by omega)
              clear hat hij hij2 hb
              go_wp2
              go_roundg g
              case measure => omega
              case rel => exact ⟨j + 1, by rw [hbs.out], by simp, ⟨by have := hg.out; omega⟩, ⟨by (with_reducible repeat (first | apply Kd.C_alloc | apply Kd.C_drewN | apply Kd.C_drew)); exact H7.out⟩, ⟨by (with_reducible repeat (first | apply Kd.C_alloc | apply Kd.C_drewN | apply Kd.C_drew)); exact H6.out⟩, ⟨by repeat (first | (with_reducible first | exact HB.out | apply below_alloc | apply pw_below_drewN | apply below_drew1) | exact HB.out)⟩⟩
            | false =>
              rw [hb] at hij
              have hij2 : ob16 (rd mm (j : Int)) = true := by unfold rd; rw [Int.toNat_natCast, hij]; rfl
              have hbs := Lib.hid (bads_no mm j hij2)
              rw [show rdOf false od (j : Int) = false by unfold rdOf; rw [Int.toNat_natCast]; exact hb] at hx6
              clear hij hij2 hb
              go_wp2
              go_roundg g
              case measure => omega
              case rel => exact ⟨j + 1, by rw [hbs.out], by simp, ⟨by have := hg.out; omega⟩, ⟨by (with_reducible repeat (first | apply Kd.C_alloc | apply Kd.C_drewN | apply Kd.C_drew)); exact H7.out⟩, ⟨by (with_reducible repeat (first | apply Kd.C_alloc | apply Kd.C_drewN | apply Kd.C_drew)); exact H6.out⟩, ⟨by repeat (first | (with_reducible first | exact HB.out | apply below_alloc | apply pw_below_drewN | apply below_drew1) | exact HB.out)⟩⟩
          · obtain rfl : j = m0.length := by omega
            have hjl := bads_length mm m0.length
            clear hg' hg
            go_wp2_with ((go_at_call 17; (with_reducible refine (works_c _).mono ?_); rintro e w' ⟨rfl, ⟨nd, rfl⟩⟩))
            go_ret
            exact ⟨rfl, by repeat (first | (with_reducible first | exact HB.out | apply below_alloc | apply pw_below_drewN | apply below_drew1) | exact HB.out)⟩
theorem bad_walk (a0 : Option Addr) (len0 cap0 : Nat) (z0 : List Int) (a1 : Option Addr) (len1 cap1 : Nat) (z1 : List Int) (w : World)
    (w0 : (a0 = none ∧ len0 = 0 ∧ cap0 = 0 ∧ z0 = []) ∨ ∃ x, a0 = some x ∧ len0 ≤ cap0 ∧ cap0 ≤ maxLen ∧ z0.length = cap0 ∧ (∀ i, i < z0.length → w.cell? (x.add i) = some (.int .u16 (z0.getD i 0))) ∧ ∀ n ∈ z0, (Lit.int .u16 n).wf = true) (y0 : len0 * 2 ≤ 140737488351232)
    (w1 : (a1 = none ∧ len1 = 0 ∧ cap1 = 0 ∧ z1 = []) ∨ ∃ x, a1 = some x ∧ len1 ≤ cap1 ∧ cap1 ≤ maxLen ∧ z1.length = cap1 ∧ (∀ i, i < z1.length → w.cell? (x.add i) = some (.int .u16 (z1.getD i 0))) ∧ ∀ n ∈ z1, (Lit.int .u16 n).wf = true) (y1 : len1 * 2 ≤ 140737488351232) :
    Calls Try.prog 7 #[.slice a0 len0 cap0, .slice a1 len1 cap1] w fun e w' => e = .returned (.bool true) ∧ Below w.heap.size w w' := by
  obtain ⟨l0, rfl, hr0, hm0, hw0, hc0⟩ := ReadsInt.ofRowC w0
  obtain ⟨l1, rfl, hr1, hm1, hw1, hc1⟩ := ReadsInt.ofRowC w1
  exact bad_calls _ _ l0 _ _ l1 w (Kd.C_of_reads (d := (0 : Int)) (h1 := fun _ => rfl) hr0) hc0 hw0 (Kd.C_of_reads (d := (0 : Int)) (h1 := fun _ => rfl) hr1) hc1 hw1
end Go.Proofs.Ytjinijaegfolbaa.L02
