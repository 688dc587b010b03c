/- parity.All's contract; what a memory reads after cells were written. -/
import Derived.Test.YtllmmgjmkgiodaaMem7
import Derived.Shelf.Abstract
namespace Go.Proofs.Ytllmmgjmkgiodaa.Mem
open Go.RowKit Go.Proofs.Ytllmmgjmkgiodaa.PAll Go.Proofs.YtllmmgjmkgiodaaW.PrintWords Go.Proofs.YtllmmgjmkgiodaaW.PrintLast Go.Proofs.YtllmmgjmkgiodaaW.PrintMore Go.Proofs.Ytllmmgjmkgiodaa.Plain Go.Proofs.Ytllmmgjmkgiodaa.Par Go.Proofs.Ytllmmgjmkgiodaa.Lit
set_option linter.unusedVariables false
set_option linter.unusedSimpArgs false
set_option maxHeartbeats 1000000 in
theorem All_c (A : Option Addr) (c : Nat) (l : List Int) (n : Nat) (e0 : l.length = n) (w : World) (hr : Kd.C (Kd.int .u16) w A n l) (hl : n * 2 ≤ 140737488351232) (hb : RNG l) :
    Calls Try.prog 28 #[.slice A n c] w fun e w' => ∃ v, e = .returned v ∧ Kd.R (Kd.int .u16) 54 w' w.heap.size (fun _ => True) v (l.map putI) ∧ Below w.heap.size w w' := by
  have HR := Aside0.mk hr
  clear hr
  have HB := Aside0.mk (Below.refl w.heap.size w)
  obtain ⟨i0, hi, hz0, hz1, hz2⟩ := info_parts infoStored
  go_enter Try.func28, Try.ntmps28
  go_wp2_with (at_make; refine wpList_make_own _ rfl _ _ 38 rfl w.heap.size 54 i0 (.int .u16 0) 1 Try.underlying38 hi hz0 hz1 .i64 .i64 (n : Int) n rfl rfl rfl (by rw [hz2]; omega) (by unfold maxLen; omega) (by simp) ?_; intro w1 hown hg; have HO := Aside0.mk (Kd.R_of_own (enc := Value.int .u16) (h1 := fun _ => rfl) (ok := fun _ => True) (xs := []) hown (fun _ _ => trivial)); have HB1 := Aside0.mk (pw_below_grown HB.out none (by simp) hg (fun k hk => by cases hk)); clear HB hown hg; have HB := HB1; clear HB1)
  clear hi hz0 hz1 hz2
  go_loopg [3, 11] n (fun g v3 v11 w' => ∃ i : Int, v11 = .int .i64 i ∧ 0 ≤ i ∧ Aside0 (i + g = n) ∧ Aside0 (Kd.R (Kd.int .u16) 54 w' w.heap.size (fun _ => True) v3 ((l.take i.toNat).map putI)) ∧ Aside0 (Below w.heap.size w w'))
  case atStart => exact ⟨0, rfl, by decide, ⟨by omega⟩, HO, HB⟩
  case round =>
    clear HO HB
    obtain ⟨i, rfl, h0, hg, HO, HB⟩ := hrel
    have hg' := hg.out
    by_cases hlt : i < (n : Int)
    · obtain ⟨g, rfl⟩ : ∃ g, gk = g + 1 := ⟨gk - 1, by omega⟩
      clear hg'
      have b0 : decide (i < (n : Int)) = true := decide_eq_true hlt
      obtain ⟨ad, eA, hx⟩ := Kd.at_int HR.out i h0 hlt
      cases eA
      replace hx := (HB.out.cell (World.block_lt_of_cell? w _ hx)).trans hx
      have hrd := hb i h0 (by omega)
      have P1 := Lib.hid (Put_c (rd l i) hrd.1 hrd.2)
      have LT := Lib.hid (takeI l i h0 (by omega))
      have LM : Aside0 (((l.take i.toNat).map putI).length < 70368744177664) := ⟨by rw [List.length_map, List.length_take]; omega⟩
      clear hrd
      go_wp2_with (first | (go_at_call 34; (with_reducible refine (P1.out _).mono ?_); rintro e w' ⟨rfl, ⟨nd, rfl⟩⟩) | ((with_reducible refine gate_builtin (b := .append) (xs := #[.tmp 15, .tmp 18]) rfl ?_); at_builtin; refine Kd.R_append (Kd.int .u16) (w0 := w) w.heap.size rfl (.tmp 15) (.tmp 18) 38 54 (.int .u16 0) 2 rfl Try.underlying38 infoStored rfl (by decide) (by omega) u3 ((l.take i.toNat).map putI) (putI (rd l i)) [.int .u16 (putI (rd l i))] (fun _ => True) (fun _ => False) rfl rfl ?aP (fun _ hk => hk.elim) ?aF ?aO ?aB ?aS ?aL ?_; (case aP => exact rfl); (case aB => exact (by repeat (first | (with_reducible first | exact HB.out | apply below_alloc | apply pw_below_drewN | apply below_drew1) | exact HB.out))); (case aF => exact (fun _ _ => trivial)); (case aO => exact (by (with_reducible repeat (first | apply Kd.R_alloc | apply Kd.R_drewN | apply Kd.R_drew)); exact HO.out)); (case aS => exact (below_size (by repeat (first | (with_reducible first | exact HB.out | apply below_alloc | apply pw_below_drewN | apply below_drew1) | exact HB.out)))); (case aL => have := LM.out; omega); intro v123 w6 ho hb hg hat; have n0_ := Aside0.mk (hb); have n1_ := Aside0.mk (ho); clear HB; clear HO; have HB := n0_; have HO := n1_; clear n0_ n1_; clear ho hb hg hat))
      go_roundg g
      case measure => omega
      case rel => exact ⟨i + 1, rfl, by omega, ⟨by have := hg.out; omega⟩, ⟨by rw [LT.out, List.map_append]; (with_reducible repeat (first | apply Kd.R_alloc | apply Kd.R_drewN | apply Kd.R_drew)); exact HO.out⟩, ⟨(by repeat (first | (with_reducible first | exact HB.out | apply below_alloc | apply pw_below_drewN | apply below_drew1) | exact HB.out))⟩⟩
    · have b0 : decide (i < (n : Int)) = false := decide_eq_false hlt
      have LA := Lib.hid (show (l.take i.toNat) = l from List.take_of_length_le (by omega))
      clear hg'
      go_wp2
      go_ret
      exact ⟨_, rfl, by have h := HO.out; rw [LA.out] at h; (with_reducible repeat (first | apply Kd.R_alloc | apply Kd.R_drewN | apply Kd.R_drew)); exact h, (by repeat (first | (with_reducible first | exact HB.out | apply below_alloc | apply pw_below_drewN | apply below_drew1) | exact HB.out))⟩

/-! ### What is read after cells were written -/
theorem rd_set (l : List Int) (j i x : Int) (j0 : 0 ≤ j) (i0 : 0 ≤ i) (j1 : j < (l.length : Int)) : rd (l.set j.toNat x) i = if j = i then x else rd l i := by
  unfold rd
  rw [List.getD_eq_getElem?_getD, List.getD_eq_getElem?_getD, List.getElem?_set]
  by_cases c : j = i
  · subst c
    rw [if_pos rfl, if_pos rfl, if_pos (by omega)]; rfl
  · rw [if_neg (by omega), if_neg c]
theorem rd_map (f : Int → Int) (l : List Int) (i : Int) (i0 : 0 ≤ i) (i1 : i < (l.length : Int)) : rd (l.map f) i = f (rd l i) := by
  have hk : i.toNat < l.length := by omega
  unfold rd
  rw [List.getD_eq_getElem?_getD, List.getD_eq_getElem?_getD, List.getElem?_map, List.getElem?_eq_getElem hk]; rfl
theorem RNG_set {l : List Int} (h : RNG l) (j x : Int) (j0 : 0 ≤ j) (j1 : j < (l.length : Int)) (hx : 0 ≤ x ∧ x < 65536) : RNG (l.set j.toNat x) := by
  intro i i0 i1
  rw [List.length_set] at i1
  rw [rd_set l j i x j0 i0 j1]
  split
  · exact hx
  · exact h i i0 i1
theorem RNG_put (l : List Int) : RNG (l.map putI) := by
  intro i i0 i1
  rw [List.length_map] at i1
  rw [rd_map putI l i i0 i1]
  exact put_range _
theorem inB_cons (n : Nat) (x : S46) (cs : List S46) : inB n (x :: cs) = true ↔ (0 ≤ x.f0 ∧ x.f0 < (n : Int)) ∧ inB n cs = true := by
  unfold inB; rw [List.all_cons, Bool.and_eq_true, decide_eq_true_eq]
theorem RNG_app : ∀ (cs : List S46) (l : List Int), RNG l → inB l.length cs = true → RNG (appL l cs)
  | [], l, h, _ => h
  | x :: cs, l, h, hb => by
    rw [inB_cons] at hb
    refine RNG_app cs (l.set x.f0.toNat (putI x.f1)) (RNG_set h x.f0 _ hb.1.1 hb.1.2 (put_range _)) ?_
    rw [List.length_set]; exact hb.2
/-- What the stored word v is to be: right parity and the word want, or wrong parity. -/
def good (v : Int) (st : Int × Bool) : Prop := if st.2 then ob16 v = true ∧ v % 32768 = st.1 else ob16 v = false
def stepW (i : Int) (st : Int × Bool) (x : S46) : Int × Bool := if x.f0 = i then (x.f1 % 32768, true) else st
def wantS (st : Int × Bool) (i : Int) (cs : List S46) : Int × Bool := cs.foldl (stepW i) st
theorem good_app (i : Int) (i0 : 0 ≤ i) : ∀ (cs : List S46) (l : List Int) (st : Int × Bool), i < (l.length : Int) → (∀ x ∈ cs, 0 ≤ x.f1) → inB l.length cs = true → good (rd l i) st → good (rd (appL l cs) i) (wantS st i cs)
  | [], l, st, _, _, _, h => h
  | x :: cs, l, st, hi, hx, hb, h => by
    rw [inB_cons] at hb
    refine good_app i i0 cs (l.set x.f0.toNat (putI x.f1)) (stepW i st x) (by rw [List.length_set]; exact hi) (fun y hy => hx y (List.mem_cons_of_mem _ hy)) (by rw [List.length_set]; exact hb.2) ?_
    rw [rd_set l x.f0 i _ hb.1.1 i0 hb.1.2]
    unfold stepW
    by_cases c : x.f0 = i
    · rw [if_pos c, if_pos c]
      unfold good
      rw [if_pos rfl]
      exact ⟨put_odd _, put_mod _ (hx x List.mem_cons_self)⟩
    · rw [if_neg c, if_neg c]; exact h
theorem wantS_next (st : Int × Bool) (i : Int) (cs : List S46) (k : Int) (k0 : 0 ≤ k) (k1 : k < (cs.length : Int)) : wantS st i (cs.take (k + 1).toNat) = stepW i (wantS st i (cs.take k.toNat)) (rd_T46 cs k) := by
  rw [takeT cs k k0 k1]; unfold wantS; rw [List.foldl_append]; rfl
theorem read_good {l : List Int} {i : Int} {st : Int × Bool} (i0 : 0 ≤ i) (i1 : i < (l.length : Int)) (h : good (rd l i) st) :
    (st.2 = true → readW l i = st.1 ∧ readE l i = 0) ∧ (st.2 = false → readE l i = 11) := by
  unfold good at h
  have hc : 0 ≤ i ∧ i < (l.length : Int) := ⟨i0, i1⟩
  unfold readW readE
  simp only [if_pos hc]
  constructor
  · intro hs
    rw [hs, if_pos rfl] at h
    rw [h.1, if_pos rfl, if_pos rfl]
    exact ⟨h.2, rfl⟩
  · intro hs
    rw [hs, if_neg (by decide)] at h
    rw [h, if_neg (by decide)]
/-- The law's own memory: all words, one bit inverted. -/
def flat (l : List Int) (q b : Int) : List Int := (l.map putI).set q.toNat (flI (rd (l.map putI) q) b)
theorem flat_len (l : List Int) (q b : Int) : (flat l q b).length = l.length := by unfold flat; rw [List.length_set, List.length_map]
theorem flat_rng (l : List Int) (q b : Int) (q0 : 0 ≤ q) (q1 : q < (l.length : Int)) : RNG (flat l q b) := by
  have := RNG_put l q q0 (by rw [List.length_map]; exact q1)
  exact RNG_set (RNG_put l) q _ q0 (by rw [List.length_map]; exact q1) (fl_range _ _ this.1 this.2)
theorem flat_good (l : List Int) (hl : RNG l) (q b : Int) (q0 : 0 ≤ q) (q1 : q < (l.length : Int)) (b0 : 0 ≤ b) (b1 : b ≤ 15) (i : Int) (i0 : 0 ≤ i) (i1 : i < (l.length : Int)) : good (rd (flat l q b) i) (rd l i % 32768, i != q) := by
  have hp := RNG_put l q q0 (by rw [List.length_map]; exact q1)
  unfold flat
  rw [rd_set _ q i _ q0 i0 (by rw [List.length_map]; exact q1)]
  unfold good
  by_cases c : q = i
  · subst c
    rw [if_pos rfl, if_neg (by simp), ob16_flip _ _ hp.1 hp.2 b0 b1, rd_map putI l q q0 q1, put_odd]; rfl
  · rw [if_neg c, if_pos (by simp; omega), rd_map putI l i i0 i1]
    exact ⟨put_odd _, put_mod _ (hl i i0 i1).1⟩
end Go.Proofs.Ytllmmgjmkgiodaa.Mem
