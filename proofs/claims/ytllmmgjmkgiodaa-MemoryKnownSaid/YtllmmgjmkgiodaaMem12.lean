/- memory.blank, Erasable and Fixed: their contracts. -/
import Derived.Test.YtllmmgjmkgiodaaMem11
import Derived.Test.YtllmmgjmkgiodaaMem8
import Derived.Laws.CopyOwn
namespace Go.Proofs.Ytllmmgjmkgiodaa.Mem
open Go.RowKit Go.Deep Go.Proofs.Ytllmmgjmkgiodaa.PAll Go.Proofs.YtllmmgjmkgiodaaW.PrintWords Go.Proofs.YtllmmgjmkgiodaaW.PrintLast Go.Proofs.YtllmmgjmkgiodaaW.PrintMore Go.Proofs.Ytllmmgjmkgiodaa.Plain Go.Proofs.Ytllmmgjmkgiodaa.Par Go.Proofs.Ytllmmgjmkgiodaa.Lit
set_option linter.unusedVariables false
set_option linter.unusedSimpArgs false
def blankT (n i : Nat) : List Int := List.replicate i 32768 ++ List.replicate (n - i) 0
theorem blankT_len (n i : Nat) (h : i ≤ n) : (blankT n i).length = n := by unfold blankT; simp; omega
theorem blankT_next (n i : Nat) (h : i < n) : (blankT n i).set i 32768 = blankT n (i + 1) := by
  unfold blankT
  rw [List.set_append_right _ _ (by simp), show n - i = (n - (i + 1)) + 1 by omega]
  simp only [List.length_replicate, Nat.sub_self, List.replicate_succ, List.set_cons_zero]
  rw [← List.replicate_succ, List.replicate_succ']
  simp
theorem blankT_all (n : Nat) : blankT n n = zerosL n := by unfold blankT zerosL; simp
theorem blankT_none (n : Nat) : blankT n 0 = List.replicate n 0 := by unfold blankT; simp
set_option maxHeartbeats 2000000 in
theorem blank_c (n : Nat) (hn : n ≤ 36864) (w : World) : Calls Try.prog 41 #[.int .i64 (n : Int)] w fun e w' => ∃ v, e = .returned v ∧ Kd.R (Kd.int .u16) 54 w' w.heap.size (fun _ => True) v (zerosL n) ∧ Below w.heap.size w w' := by
  have HB := Aside0.mk (Below.refl w.heap.size w)
  go_enter Try.func41, Try.ntmps41
  go_wp2_with (at_make; refine Kd.R_make (Kd.int .u16) (w0 := w) w.heap.size 54 rfl (N := 6) rfl 38 (.tmp 5) (.tmp 5) rfl (n : Int) rfl rfl Try.underlying38 (.int .u16 0) 2 infoStored rfl (by decide) (by decide) 0 (ok := fun _ => True) (okp := fun _ => True) ?hzero (fun _ _ => trivial) trivial (by omega) ?hl ?hHB ?hbase ?_; (case hzero => rfl); (case hl => omega); (case hHB => exact (by repeat (first | (with_reducible first | exact HB.out | apply below_alloc | apply pw_below_drewN | apply below_drew1) | exact HB.out))); (case hbase => exact below_size (by repeat (first | (with_reducible first | exact HB.out | apply below_alloc | apply pw_below_drewN | apply below_drew1) | exact HB.out))); intro v6 w6 hR hb6 hg _; rw [Int.toNat_natCast, ← blankT_none] at hR; obtain ⟨A6, c6, e6⟩ := Kd.R_slice hR; rw [blankT_len n 0 (by omega)] at e6; subst e6; have R6 := Aside0.mk hR; clear HB hR hg; have HB := Aside0.mk hb6; clear hb6)
  have W6 := Lib.hid (Eq.refl n)
  go_loopg [9] n (fun g v9 w' => ∃ i : Nat, v9 = .int .i64 (i : Int) ∧ Aside0 (i + g = n) ∧ Aside0 (Kd.R (Kd.int .u16) 54 w' w.heap.size (fun _ => True) (.slice A6 n c6) (blankT n i)) ∧ Aside0 (Below w.heap.size w w'))
  case atStart => exact ⟨0, rfl, ⟨by omega⟩, ⟨R6.out⟩, ⟨HB.out⟩⟩
  case round =>
    clear R6 HB
    obtain ⟨i, rfl, hg, R6, HB⟩ := hrel
    by_cases hlt : i < n
    · obtain ⟨g, rfl⟩ : ∃ g, gk = g + 1 := ⟨gk - 1, by have := hg.out; omega⟩
      have b0 : decide ((i : Int) < (n : Int)) = true := decide_eq_true (by omega)
      obtain ⟨g6, k6, e6, _, _, cs6, hb6⟩ := Kd.R_form R6.out (by rw [blankT_len n i (by omega)]; omega)
      obtain rfl : A6 = some ⟨g6, 0, none⟩ := by injection e6
      have hge6 := Lib.hid (Kd.R_base R6.out g6 rfl)
      obtain ⟨hx6, hf6⟩ := Kd.R_celln (0 : Int) R6.out (i : Int) (by omega) (by omega)
      rw [Int.toNat_natCast] at hx6 hf6
      have HP := Kd.R_putn (enc := Value.int .u16) R6.out (i : Int) 32768
      rw [Int.toNat_natCast, blankT_next n i hlt] at HP
      replace HP := Aside0.mk HP
      have h1 : (0 ≤ (i : Int)) = True := eq_true (by omega)
      have h2 : ((i : Int) < (n : Int)) = True := eq_true (by omega)
      clear e6 hb6
      go_wp2
      go_roundg g
      case measure => omega
      case rel => exact ⟨i + 1, by simp, ⟨by have := hg.out; omega⟩, ⟨HP.out⟩, ⟨below_set HB.out hge6.out⟩⟩
    · have b0 : decide ((i : Int) < (n : Int)) = false := decide_eq_false (by omega)
      obtain rfl : i = n := by have := hg.out; omega
      rw [blankT_all] at R6
      go_wp2
      go_ret
      exact ⟨_, rfl, R6.out, HB.out⟩
theorem Erasable_c (w : World) : Calls Try.prog 32 #[] w fun e w' => ∃ v, e = .returned v ∧ Kd.R (Kd.int .u16) 54 w' w.heap.size (fun _ => True) v (zerosL 2048) ∧ Below w.heap.size w w' := by
  have HB := Aside0.mk (Below.refl w.heap.size w)
  have BL := Lib.hid (blank_c 2048 (by decide))
  go_enter Try.func32, Try.ntmps32
  go_wp2_with (go_at_call 41; (with_reducible refine at_args #[.int .i64 2048] ?_); refine (BL.out _).mono ?_; rintro e w' ⟨v, rfl, hR, hb⟩)
  go_ret
  exact ⟨_, rfl, hR, hb⟩

/-! ### The array of the banks seen -/
def seenA (s : List Int) : Array Value := ((List.range 36).map fun j : Nat => Value.bool (decide ((j : Int) ∈ s))).toArray
theorem seenA_nil : seenA [] = #[.bool false, .bool false, .bool false, .bool false, .bool false, .bool false, .bool false, .bool false, .bool false, .bool false, .bool false, .bool false, .bool false, .bool false, .bool false, .bool false, .bool false, .bool false, .bool false, .bool false, .bool false, .bool false, .bool false, .bool false, .bool false, .bool false, .bool false, .bool false, .bool false, .bool false, .bool false, .bool false, .bool false, .bool false, .bool false, .bool false] := by rfl
theorem seenA_get (s : List Int) (i : Int) (h0 : 0 ≤ i) (h1 : i ≤ 35) : (seenA s)[i.toNat]? = some (.bool (decide (i ∈ s))) := by
  unfold seenA
  rw [List.getElem?_toArray, List.getElem?_map, List.getElem?_range (by omega)]
  simp only [Option.map_some]
  rw [Int.toNat_of_nonneg h0]
theorem seenA_set (s : List Int) (i : Int) (h0 : 0 ≤ i) (h1 : i ≤ 35) : (seenA s).setIfInBounds i.toNat (.bool true) = seenA (s ++ [i]) := by
  unfold seenA
  rw [List.setIfInBounds_toArray]
  congr 1
  apply List.ext_getElem?
  intro k
  rw [List.getElem?_set, List.getElem?_map, List.getElem?_map]
  by_cases hk : k < 36
  · rw [List.getElem?_range hk]
    simp only [Option.map_some, List.length_map, List.length_range, List.mem_append, List.mem_singleton]
    by_cases c : i.toNat = k
    · rw [if_pos c, if_pos (by omega), decide_eq_true (Or.inr (by omega))]
    · rw [if_neg c]
      congr 2
      rw [decide_eq_decide]
      constructor
      · exact Or.inl
      · rintro (h | h)
        · exact h
        · omega
  · rw [List.getElem?_eq_none (by simp; omega)]
    rw [if_neg (by omega)]; rfl
/-- A cut of an own row is written: the row behind it. -/
theorem row_spliced {w w1 : World} {base g n c a : Nat} {ok : Nat → Prop} {xs : List Int} (h : Kd.R (Kd.int .u16) 54 w base ok (.slice (some ⟨g, 0, none⟩) n c) xs) {cur : List Value} (hg : w.heap[g]? = some (.cells cur.toArray 54 (0, 0))) {ys : List Int} (hfit : a + ys.length ≤ xs.length)
    (h1 : w1.heap[g]? = some (.cells (splice cur a (ys.map (Value.int .u16))).toArray 54 (0, 0))) :
    Kd.R (Kd.int .u16) 54 w1 base ok (.slice (some ⟨g, 0, none⟩) n c) (xs.take a ++ (ys ++ xs.drop (a + ys.length))) := by
  obtain ⟨hn, _, _⟩ := Kd.R_reads' h
  obtain ⟨hl, ho⟩ := Kd.own_of_R h
  rcases ho with ⟨hv, _⟩ | ⟨g', cap, cur', hv, hb, hg', h2, h3, h4, h5⟩
  · cases hv
  · injection hv with e1 e2 e3
    injection e1 with e1
    injection e1 with e1
    subst e1; subst e3
    rw [hg] at hg'
    injection hg' with hg'
    injection hg' with hc
    subst hc
    simp only [Nat.mul_one, List.size_toArray] at h4 h5
    have hxl : (xs.take a ++ (ys ++ xs.drop (a + ys.length))).length = xs.length := by
      simp only [List.length_append, List.length_take, List.length_drop]; omega
    refine Kd.R_of_own (enc := Value.int .u16) ⟨by rw [hxl, Nat.mul_one, encs_length, hxl], Or.inr ⟨g, c, _, by rw [hxl, hn], hb, h1, by rw [hxl]; exact h2, h3, ?_, ?_⟩⟩ h.1
    · rw [List.size_toArray, length_splice _ _ _ (by rw [List.length_map]; omega), Nat.mul_one]; exact h4
    · rw [hxl, Nat.mul_one]
      show (splice cur a (ys.map (Value.int .u16))).take xs.length = _
      have hx : cur.take xs.length = xs.map (Value.int .u16) := h5
      have e : (splice cur a (ys.map (Value.int .u16))).take xs.length = (cur.take xs.length).take a ++ (ys.map (Value.int .u16) ++ (cur.take xs.length).drop (a + ys.length)) := by
        unfold splice
        rw [List.take_append, List.take_append, List.take_take, List.take_take, List.drop_take, List.length_map]
        have z1 : (cur.take a).length = a := by rw [List.length_take]; omega
        rw [z1, List.take_of_length_le (i := xs.length - a) (l := ys.map (Value.int .u16)) (by rw [List.length_map]; omega)]
        rw [show min xs.length a = a by omega, show min a xs.length = a by omega, show xs.length - a - ys.length = xs.length - (a + ys.length) by omega]
      rw [e, hx]
      show _ = (xs.take a ++ (ys ++ xs.drop (a + ys.length))).map (Value.int .u16)
      rw [List.map_append, List.map_append, List.map_take, List.map_drop]
end Go.Proofs.Ytllmmgjmkgiodaa.Mem
