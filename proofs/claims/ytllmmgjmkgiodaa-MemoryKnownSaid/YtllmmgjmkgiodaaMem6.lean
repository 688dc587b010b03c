/- memory.Apply: what it computes and its contract. -/
import Derived.Test.YtllmmgjmkgiodaaPar
import Derived.Test.YtllmmgjmkgiodaaMem
namespace Go.Proofs.Ytllmmgjmkgiodaa.Mem
open Go.RowKit Go.Proofs.Ytllmmgjmkgiodaa.PAll Go.Proofs.YtllmmgjmkgiodaaW.PrintWords Go.Proofs.YtllmmgjmkgiodaaW.PrintLast Go.Proofs.YtllmmgjmkgiodaaW.PrintMore Go.Proofs.Ytllmmgjmkgiodaa.Plain Go.Proofs.Ytllmmgjmkgiodaa.Par
set_option linter.unusedVariables false
set_option linter.unusedSimpArgs false
def inB (n : Nat) (cs : List S46) : Bool := cs.all fun x => decide (0 ≤ x.f0 ∧ x.f0 < (n : Int))
def appL (l : List Int) (cs : List S46) : List Int := cs.foldl (fun m x => m.set x.f0.toNat (putI x.f1)) l
theorem appL_length (cs : List S46) : ∀ l : List Int, (appL l cs).length = l.length := by
  induction cs with
  | nil => intro l; rfl
  | cons x cs ih => intro l; show (appL (l.set x.f0.toNat (putI x.f1)) cs).length = _; rw [ih, List.length_set]
theorem takeT (cs : List S46) (i : Int) (h0 : 0 ≤ i) (h : i < (cs.length : Int)) : cs.take (i + 1).toNat = cs.take i.toNat ++ [rd_T46 cs i] := by
  have e : (i + 1).toNat = i.toNat + 1 := by omega
  have hl : i.toNat < cs.length := by omega
  rw [e, List.take_add_one, List.getElem?_eq_getElem hl]
  unfold rd_T46
  rw [List.getD_eq_getElem?_getD, List.getElem?_eq_getElem hl]; rfl
theorem appL_next (l : List Int) (cs : List S46) (i : Int) (h0 : 0 ≤ i) (h : i < (cs.length : Int)) : appL l (cs.take (i + 1).toNat) = (appL l (cs.take i.toNat)).set (rd_T46 cs i).f0.toNat (putI (rd_T46 cs i).f1) := by
  rw [takeT cs i h0 h]; unfold appL; rw [List.foldl_append]; rfl
theorem inB_next (n : Nat) (cs : List S46) (i : Int) (h0 : 0 ≤ i) (h : i < (cs.length : Int)) : inB n (cs.take (i + 1).toNat) = (inB n (cs.take i.toNat) && decide (0 ≤ (rd_T46 cs i).f0 ∧ (rd_T46 cs i).f0 < (n : Int))) := by
  rw [takeT cs i h0 h]; unfold inB; rw [List.all_append]; simp
theorem inB_bad (n : Nat) (cs : List S46) (i : Int) (h0 : 0 ≤ i) (h : i < (cs.length : Int)) (hb : ¬ (0 ≤ (rd_T46 cs i).f0 ∧ (rd_T46 cs i).f0 < (n : Int))) : inB n cs = false := by
  have hl : i.toNat < cs.length := by omega
  unfold inB
  rw [List.all_eq_false]
  refine ⟨cs[i.toNat], List.getElem_mem hl, ?_⟩
  have e : rd_T46 cs i = cs[i.toNat] := by
    unfold rd_T46; rw [List.getD_eq_getElem?_getD, List.getElem?_eq_getElem hl]; rfl
  rw [← e]; simpa using hb
theorem in_c (a m : Int) (w : World) : Calls Try.prog 36 #[.int .i64 a, .int .i64 m] w fun e w' => e = .returned (.bool (decide (0 ≤ a ∧ a ≤ m))) ∧ Drawn0 w w' := memory_in.calls _ _ _ w (in_f a m)
theorem Put_q (x : Int) (h0 : 0 ≤ x) (h1 : x < 65536) (w : World) (n : Nat) : Calls Try.prog 34 #[.int .u16 x] (w.drewN n) fun e w'' => e = .returned (.int .u16 (putI x)) ∧ ∃ m, w'' = w.drewN m := by
  refine Calls.quiet_of ?_
  exact (Put_c x h0 h1 (w.drewN n)).mono fun e w' ⟨he, ⟨hm⟩⟩ => ⟨he, hm⟩
theorem infoStored : (Try.prog.info? 54).map (fun i => (i.zero, i.size, i.bytes)) = some (some (.int .u16 0), 1, 2) := by kernel_rfl
theorem infoStored1 : (Try.prog.info? 54).map (·.size) = some 1 := by kernel_rfl
set_option maxHeartbeats 2000000 in
theorem Apply_w (A0 : Option Addr) (c0 : Nat) (l : List Int) (A1 : Option Addr) (c1 : Nat) (cs : List S46) (n m : Nat) (e0 : l.length = n) (e1 : cs.length = m) (w : World) (hr0 : Kd.C (Kd.int .u16) w A0 n l) (hr1 : Kd.C k46 w A1 m cs)
    (hl : n * 2 ≤ 140737488351232) (hm : m * 2 ≤ 140737488351232) (hb : ∀ i : Int, 0 ≤ i → i < (m : Int) → 0 ≤ (rd_T46 cs i).f1 ∧ (rd_T46 cs i).f1 < 65536)
    (er : Int) (r : List Int) (her : (if inB n cs then 0 else 3) = er) (hrr : (if inB n cs then appL l cs else []) = r) :
    Calls Try.prog 23 #[.slice A0 n c0, .slice A1 m c1] w fun e w' => ∃ v, e = .returned (.tuple #[v, .int .i64 er]) ∧ Kd.R (Kd.int .u16) 54 w' w.heap.size (fun _ => True) v r ∧ Below w.heap.size w w' := by
  have HB := Aside0.mk (Below.refl w.heap.size w)
  have hC0 := Aside0.mk hr0
  have hC1 := Aside0.mk hr1
  clear hr0 hr1
  replace her := Lib.hid her
  replace hrr := Lib.hid hrr
  go_enter Try.func23, Try.ntmps23
  go_wp2_with (first | (at_make; refine Kd.R_make (Kd.int .u16) (w0 := w) w.heap.size 54 rfl (N := 11) rfl 38 (.tmp 10) (.tmp 10) rfl (n : Int) rfl rfl Try.underlying38 (.int .u16 0) 2 infoStored rfl (by decide) (by decide) 0 (ok := fun _ => True) (okp := fun _ => True) ?hzero (fun _ _ => trivial) trivial (by omega) ?hl ?hHB ?hbase ?_; (case hzero => rfl); (case hl => omega); (case hHB => exact (by repeat (first | (with_reducible first | exact HB.out | apply below_alloc | apply pw_below_drewN | apply below_drew1) | exact HB.out))); (case hbase => exact below_size (by repeat (first | (with_reducible first | exact HB.out | apply below_alloc | apply pw_below_drewN | apply below_drew1) | exact HB.out))); intro v6 w6 hR hb6 hg _; rw [Int.toNat_natCast] at hR; obtain ⟨A6, c6, e6⟩ := Kd.R_slice hR; rw [List.length_replicate] at e6; subst e6; have R6 := Aside0.mk hR; clear HB hR hg; have HB := Aside0.mk hb6; clear hb6) | (refine Kd.R_copy (o := ⟨some 14, _, _, _, _, _⟩) (enc := Value.int .u16) (h1 := fun _ => rfl) (0 : Int) (w0 := w) w.heap.size rfl (.tmp 12) (.tmp 13) 38 38 54 rfl Try.underlying38 infoStored1 (.slice A6 n c6) (List.replicate n 0) l A0 n c0 (fun _ => True) rfl rfl R6.out (Kd.C_below hC0.out (by repeat (first | (with_reducible first | exact HB.out | apply below_alloc | apply pw_below_drewN | apply below_drew1) | exact HB.out))) (by repeat (first | (with_reducible first | exact HB.out | apply below_alloc | apply pw_below_drewN | apply below_drew1) | exact HB.out)) (below_size (by repeat (first | (with_reducible first | exact HB.out | apply below_alloc | apply pw_below_drewN | apply below_drew1) | exact HB.out))) ?_; intro w7 hR hb7 hg; rw [List.length_replicate, Nat.min_self, List.take_of_length_le (by omega), List.drop_eq_nil_of_le (by rw [List.length_replicate]; exact Nat.le_refl _), List.append_nil] at hR; clear R6; have R6 := Aside0.mk hR; clear HB hR hg; have HB := Aside0.mk hb7; clear hb7))
  have W6 := Lib.hid (Eq.refl m)
  go_loopg [17] m (fun g v17 w' => ∃ i : Int, v17 = .int .i64 i ∧ 0 ≤ i ∧ Aside0 (i + g = m) ∧ Aside0 (inB n (cs.take i.toNat) = true) ∧ Aside0 (Kd.R (Kd.int .u16) 54 w' w.heap.size (fun _ => True) (.slice A6 n c6) (appL l (cs.take i.toNat))) ∧ Aside0 (Below w.heap.size w w'))
  case atStart => exact ⟨0, rfl, by decide, ⟨by omega⟩, ⟨rfl⟩, ⟨R6.out⟩, ⟨HB.out⟩⟩
  case round =>
    clear R6 HB
    obtain ⟨i, rfl, h0, hg, INV, R6, HB⟩ := hrel
    by_cases hlt : i < (m : Int)
    · obtain ⟨g, rfl⟩ : ∃ g, gk = g + 1 := ⟨gk - 1, by have := hg.out; omega⟩
      have b0 : decide (i < (m : Int)) = true := decide_eq_true hlt
      obtain ⟨ad, eA, hx0, hx1⟩ := at_T46 (Kd.C_below hC1.out HB.out) i h0 hlt
      cases eA
      by_cases hin : 0 ≤ (rd_T46 cs i).f0 ∧ (rd_T46 cs i).f0 < (n : Int)
      · obtain ⟨h2, h3⟩ := hin
        have b1 : decide (0 ≤ (rd_T46 cs i).f0) = true := decide_eq_true h2
        have b2 : decide ((rd_T46 cs i).f0 ≤ (n : Int) - 1) = true := decide_eq_true (by omega)
        obtain ⟨hb0, hb1⟩ := hb i h0 hlt
        have P1 := Lib.hid (Put_c (rd_T46 cs i).f1 hb0 hb1)
        have NX := Lib.hid (appL_next l cs i h0 (by omega))
        have NB := Lib.hid (show inB n (cs.take (i + 1).toNat) = true by rw [inB_next n cs i h0 (by omega), INV.out, Bool.true_and]; exact decide_eq_true ⟨h2, h3⟩)
        --REG
        go_wp2
        generalize hwb : wr.alloc (Obj.cells #[Value.int IntKind.i64 (rd_T46 cs i).f0, Value.int IntKind.u16 (rd_T46 cs i).f1] 46) = wb
        have hbx0 : wb.cell? ⟨wr.heap.size, 0, none⟩ = some (.int .i64 (rd_T46 cs i).f0) := by rw [← hwb, World.cell?_alloc_mark]; rfl
        have hbx1 : wb.cell? ⟨wr.heap.size, 1, none⟩ = some (.int .u16 (rd_T46 cs i).f1) := by rw [← hwb, World.cell?_alloc_mark]; rfl
        have R7 : Aside0 (Kd.R (Kd.int .u16) 54 wb.drew w.heap.size (fun _ => True) (.slice A6 n c6) (appL l (cs.take i.toNat))) := ⟨by rw [← hwb]; exact Kd.R_drew (Kd.R_alloc R6.out _)⟩
        have HB7 : Aside0 (Below w.heap.size w wb.drew) := ⟨by rw [← hwb]; exact (by repeat (first | (with_reducible first | exact HB.out | apply below_alloc | apply pw_below_drewN | apply below_drew1) | exact HB.out))⟩
        clear R6 HB
        have R6 := R7
        have HB := HB7
        clear R7 HB7
        generalize wr.heap.size = h0_ at hbx0 hbx1 ⊢
        refine start_ (n := 8) (S := fun w' => w'.cell? ⟨h0_, 0, none⟩ = some (.int .i64 (rd_T46 cs i).f0) ∧ w'.cell? ⟨h0_, 1, none⟩ = some (.int .u16 (rd_T46 cs i).f1)) (ds := [7]) #[false, false, false, false, false, false, false, false] (by kernel_rfl) rfl rfl ⟨hbx0, hbx1⟩ (fun hHeld => ?_)
        change wb.drew.cell? _ = _ at hbx0 hbx1
        generalize wb.drew = wd at R6 HB hbx0 hbx1 hHeld ⊢
        refine pure_ (i := 0) (N := some 28) (v := ?_) (a' := ?_) #[true, false, false, false, false, false, false, false] rfl rfl (by kernel_rfl) (fun _ _ _ h => h) (Or.inl ⟨by rfl, ?_⟩) ?_ ?_
        rotate_left
        · intro w'
          go_simp
          with_reducible rfl
        rotate_left
        · simp only [Act.put, List.setIfInBounds_toArray, List.set_cons_zero, List.set_cons_succ, i64_w, i32_w]
          rfl
        refine pure_ (i := 1) (N := some 29) (v := ?_) (a' := ?_) #[true, true, false, false, false, false, false, false] rfl rfl (by kernel_rfl) (fun _ _ _ h => h) (Or.inl ⟨by rfl, ?_⟩) ?_ ?_
        rotate_left
        · intro w'
          go_simp
          with_reducible rfl
        rotate_left
        · simp only [Act.put, List.setIfInBounds_toArray, List.set_cons_zero, List.set_cons_succ, i64_w, i32_w]
          rfl
        refine pure_ (i := 3) (N := some 31) (v := ?_) (a' := ?_) #[true, true, false, true, false, false, false, false] rfl rfl (by kernel_rfl) (fun _ _ _ h => h) (Or.inl ⟨by rfl, ?_⟩) ?_ ?_
        rotate_left
        · intro w'
          go_simp
          with_reducible rfl
        rotate_left
        · simp only [Act.put, List.setIfInBounds_toArray, List.set_cons_zero, List.set_cons_succ, i64_w, i32_w]
          rfl
        refine take_ (i := 2) (N := some 30) (v := ?_) (a' := ?_) #[true, true, true, true, false, false, false, false] rfl rfl (by kernel_rfl) (fun _ _ _ h => h) (Or.inl ⟨by rfl, ?_⟩) hHeld ?_ ?_
        rotate_left
        · rintro w' ⟨s0, s1⟩
          go_simp
          with_reducible rfl
        rotate_left
        · simp only [Act.put, List.setIfInBounds_toArray, List.set_cons_zero, List.set_cons_succ, i64_w, i32_w]
          rfl
        refine take_ (i := 4) (N := some 32) (v := ?_) (a' := ?_) #[true, true, true, true, true, false, false, false] rfl rfl (by kernel_rfl) (fun _ _ _ h => h) (Or.inl ⟨by rfl, ?_⟩) hHeld ?_ ?_
        rotate_left
        · rintro w' ⟨s0, s1⟩
          go_simp
          with_reducible rfl
        rotate_left
        · simp only [Act.put, List.setIfInBounds_toArray, List.set_cons_zero, List.set_cons_succ, i64_w, i32_w]
          rfl
        refine one_ (i := 5) (N := some 33) #[true, true, true, true, true, true, false, false] rfl rfl (by kernel_rfl) (by decide) (fun K hK => ?_)
        refine goes_ Try.func34 (by kernel_rfl) rfl #[.int .u16 (rd_T46 cs i).f1] (by rfl) rfl rfl (by simp only [List.map_toArray, List.map_cons, List.map_nil]; rfl) ?_
        with_reducible refine (P1.out _).mono ?_
        rintro e w3 ⟨rfl, ⟨nd, rfl⟩⟩
        refine ⟨_, rfl, ?_⟩
        obtain ⟨g6, k6, e6, _, hlt6, cs6, hb6⟩ := Kd.R_form R6.out (by rw [appL_length]; omega)
        obtain rfl : A6 = some ⟨g6, 0, none⟩ := by injection e6
        have hge6 := Lib.hid (Kd.R_base R6.out g6 rfl)
        obtain ⟨hx6, hf6⟩ := Kd.R_celln (0 : Int) R6.out _ h2 h3
        have HP := Aside0.mk (Kd.R_putn (enc := Value.int .u16) (Kd.R_drewN R6.out nd) (rd_T46 cs i).f0 (putI (rd_T46 cs i).f1))
        clear e6
        refine hK.out _ _ ⟨hbx0, hbx1⟩ (fun hHeld => ?_)
        clear hK K
        refine norm_ (a' := ?_) ?_ ?_
        rotate_left
        · show Act.put _ (some 33) _ = _
          simp only [Act.put, List.setIfInBounds_toArray, List.set_cons_zero, List.set_cons_succ, i64_w, i32_w]
          rfl
        refine pure_ (i := 6) (N := some 34) (v := ?_) (a' := ?_) #[true, true, true, true, true, true, true, false] rfl rfl (by kernel_rfl) (fun _ _ _ h => h) (Or.inl ⟨by rfl, ?_⟩) ?_ ?_
        rotate_left
        · intro w'
          go_simp
          with_reducible rfl
        rotate_left
        · simp only [Act.put, List.setIfInBounds_toArray, List.set_cons_zero, List.set_cons_succ, i64_w, i32_w]
          rfl
        refine last_ (i := 7) (N := none) #[true, true, true, true, true, true, true, true] rfl rfl (by kernel_rfl) (by decide) (fun K hK => ?_)
        refine skip_ (w1 := ?_) (by rfl) rfl ?_ ?_
        rotate_left
        · go_simp
          rfl
        refine hK.out _ _ ?_
        clear hK K
        refine done_ (by kernel_rfl) ?_
        go_wp2
        go_roundg g
        case measure => omega
        case rel => exact ⟨i + 1, rfl, by omega, ⟨by have := hg.out; omega⟩, ⟨NB.out⟩, ⟨by rw [NX.out]; exact HP.out⟩, ⟨below_set (pw_below_drewN HB.out _) hge6.out⟩⟩
      · have NB := Lib.hid (inB_bad n cs i h0 (by omega) hin)
        rw [NB.out] at her hrr
        obtain ⟨b, hbe, hbv⟩ : ∃ b, decide (0 ≤ (rd_T46 cs i).f0) = b ∧ (b = true → decide ((rd_T46 cs i).f0 ≤ (n : Int) - 1) = false) := ⟨_, rfl, fun h => by
          rw [decide_eq_true_eq] at h
          exact decide_eq_false (by omega)⟩
        cases b with
        | false =>
          clear hbv hin
          go_wp2
          go_ret2
          exact ⟨_, by rw [← her.out]; rfl, by rw [← hrr.out]; exact Kd.R_nil _ _ _ _ _, (by repeat (first | (with_reducible first | exact HB.out | apply below_alloc | apply pw_below_drewN | apply below_drew1) | exact HB.out))⟩
        | true =>
          have hbv1 := hbv rfl
          clear hbv hin
          go_wp2
          go_ret2
          exact ⟨_, by rw [← her.out]; rfl, by rw [← hrr.out]; exact Kd.R_nil _ _ _ _ _, (by repeat (first | (with_reducible first | exact HB.out | apply below_alloc | apply pw_below_drewN | apply below_drew1) | exact HB.out))⟩
    · have hi : i = m := by have := hg.out; omega
      have b0 : decide (i < (m : Int)) = false := decide_eq_false hlt
      subst hi
      rw [Int.toNat_natCast, List.take_of_length_le (by omega)] at INV R6
      rw [INV.out] at her hrr
      go_wp2
      go_ret2
      exact ⟨_, by rw [← her.out]; rfl, by rw [← hrr.out]; exact R6.out, HB.out⟩
end Go.Proofs.Ytllmmgjmkgiodaa.Mem
