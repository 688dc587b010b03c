/- The law MemoryWords: Read, Write, Apply and Words answer as their reference does; for every memory, address and list of cells. -/
import Derived.Test.YtllmmgjmkgiodaaMem7
import Derived.Shelf.Abstract
import Derived.Shelf.RegionOpen
namespace Go.Proofs.Ytllmmgjmkgiodaa.Mem
open Go.RowKit Go.Proofs.Ytllmmgjmkgiodaa.PAll Go.Proofs.YtllmmgjmkgiodaaW.PrintWords Go.Proofs.YtllmmgjmkgiodaaW.PrintLast Go.Proofs.YtllmmgjmkgiodaaW.PrintMore Go.Proofs.Ytllmmgjmkgiodaa.Plain Go.Proofs.Ytllmmgjmkgiodaa.Par Go.Proofs.Ytllmmgjmkgiodaa.Lit
set_option linter.unusedVariables false
set_option linter.unusedSimpArgs false
theorem infoCell : (Try.prog.info? 46).map (fun i => (i.zero, i.size, i.bytes)) = some (some (.agg #[.int .i64 0, .int .u16 0]), 2, 16) := by kernel_rfl
theorem wf_rng {l : List Int} (hb : ∀ x ∈ l, (Lit.int .u16 x).wf = true) : ∀ x ∈ l, 0 ≤ x ∧ x < 65536 := fun x hx => by
  obtain ⟨n, rfl, h⟩ := wf16 (hb x hx); omega
theorem rng_take {l : List Int} (hb : ∀ x ∈ l, 0 ≤ x ∧ x < 65536) (k : Nat) : RNG (l.take k) := RNG_of fun x hx => hb x (List.mem_of_mem_take hx)
theorem rnc_take {cs : List S46} (hb : ∀ y ∈ cs, 0 ≤ y.f1 ∧ y.f1 < 65536) (k : Nat) : RNC (cs.take k) := by
  intro i h0 h1
  have hk : i.toNat < (cs.take k).length := by omega
  have e : rd_T46 (cs.take k) i = (cs.take k)[i.toNat] := by
    unfold rd_T46; rw [List.getD_eq_getElem?_getD, List.getElem?_eq_getElem hk]; rfl
  rw [e]; exact hb _ (List.mem_of_mem_take (List.getElem_mem hk))
theorem wrL_le (l : List Int) (a x : Int) : (wrL l a x).length ≤ l.length := by
  unfold wrL; split
  · rw [List.length_set]; exact Nat.le_refl _
  · exact Nat.zero_le _
theorem apL_le (l : List Int) (cs : List S46) : (apL l cs).length ≤ l.length := by
  unfold apL; split
  · rw [appL_length]; exact Nat.le_refl _
  · exact Nat.zero_le _
theorem wordsL_len (l : List Int) : (wordsL l).length = l.length := by unfold wordsL; rw [List.length_map]
set_option maxRecDepth 100000 in
set_option maxHeartbeats 4000000 in
theorem words_calls (A0 : Option Addr) (c0 : Nat) (l0 : List Int) (a : Int) (A1 : Option Addr) (c1 : Nat) (l1 : List S46) (w : World) (hr0 : Kd.C (Kd.int .u16) w A0 l0.length l0) (hc0 : l0.length ≤ c0) (hb0 : ∀ x ∈ l0, 0 ≤ x ∧ x < 65536)
    (hr1 : Kd.C k46 w A1 l1.length l1) (hc1 : l1.length ≤ c1) (hb1 : ∀ y ∈ l1, 0 ≤ y.f1 ∧ y.f1 < 65536) :
    Calls Try.prog 6 #[.slice A0 l0.length c0, .int .i64 a, .slice A1 l1.length c1] w fun e w' => e = .returned (.bool true) ∧ Below w.heap.size w w' := by
  have HB := Aside0.mk (Below.refl w.heap.size w)
  obtain ⟨i3, hi3⟩ := info_some infoStored
  obtain ⟨i4, hi4⟩ := info_some infoCell
  obtain ⟨j0, m0, hj0, a00, a01, hm0, hmc0, hq0, hcut0, hC0⟩ := cut_any (Kd.int .u16) 38 54 Try.underlying38 hi3 A0 c0 l0 hc0 3000 (by decide) w hr0
  obtain ⟨j1, m1, hj1, a10, a11, hm1, hmc1, hq1, hcut1, hC1⟩ := cut_any k46 39 46 Try.underlying39 hi4 A1 c1 l1 hc1 200 (by decide) w hr1
  have hbm0 : RNG m0 := by rw [hq0]; exact rng_take hb0 _
  have hbm1 : RNC m1 := by rw [hq1]; exact rnc_take hb1 _
  clear hr0 hr1 hb0 hb1 hi3 hi4 hq0 hq1
  replace hC0 := Aside0.mk hC0
  replace hC1 := Aside0.mk hC1
  have AP := Lib.hid fun w h0 h1 => Apply_c A0 c0 m0 A1 c1 m1 m0.length m1.length rfl rfl w h0 h1 (by omega) (by omega) hbm1
  have WW := Lib.hid fun w h0 => Words_c A0 c0 m0 m0.length rfl w h0 (by omega) hbm0
  have RD := Lib.hid fun w h0 => Read_c A0 c0 m0 m0.length rfl a w h0 hmc0 (by omega) hbm0
  have AR := Lib.hid fun A c w h0 h1 h2 => refApply_c A c m0 A1 c1 m1 m0.length m1.length rfl rfl w h0 h1 h2 hmc1 (by omega) (by omega) hbm1
  have WR := Lib.hid fun A c w h0 h1 => refWords_c A c m0 m0.length rfl w h0 h1 (by omega) hbm0
  have RR := Lib.hid fun A c w h0 h1 => refRead_c A c m0 m0.length rfl a w h0 h1 (by omega) hbm0
  have LA := Lib.hid (show (apL m0 m1).length ≤ 140737488351232 by have := apL_le m0 m1; omega)
  have LW := Lib.hid (show (wordsL m0).length ≤ 140737488351232 by rw [wordsL_len]; omega)
  have MW := Lib.hid fun i w h0 x0 x1 => Write_c A0 c0 m0 m0.length rfl (rd_T46 m1 i).f0 (rd_T46 m1 i).f1 w h0 (by omega) x0 x1
  have MR := Lib.hid fun A c i w h0 h1 x0 x1 => refWrite_c A c m0 m0.length rfl (rd_T46 m1 i).f0 (rd_T46 m1 i).f1 w h0 h1 (by omega) x0 x1
  have LR := Lib.hid fun i => show (wrL m0 (rd_T46 m1 i).f0 (rd_T46 m1 i).f1).length ≤ 140737488351232 by have := wrL_le m0 (rd_T46 m1 i).f0 (rd_T46 m1 i).f1; omega
  generalize readW m0 a = rw_ at RD RR
  generalize readE m0 a = re_ at RD RR
  generalize apE m0.length m1 = ae_ at AP AR
  have hn0 : (rw_ != rw_) = false := bne_self_eq_false _
  have hn1 : (re_ != re_) = false := bne_self_eq_false _
  have hn2 : (ae_ == ae_) = true := beq_self_eq_true _
  replace hbm1 := Lib.hid hbm1
  replace hbm0 := Lib.hid hbm0
  have a0 := eq_true a00
  have a1 := eq_true a01
  have a2 := eq_true a10
  have a3 := eq_true a11
  go_enter Try.func6, Try.ntmps6
  go_wp2
  go_quiet (fail)
  clear hcut0 hcut1 a0 a1 a2 a3 a00 a01 a10 a11 hj0 hj1
  go_wp2_with (first | ((with_reducible refine gate_builtin (b := .append) (xs := #[.tmp 29, .tmp 30]) rfl ?_); at_builtin; refine Kd.R_append_row (Value.int .u16) (0 : Int) (h1 := fun _ => rfl) (w0 := w) w.heap.size rfl (.tmp 29) (.tmp 30) 38 54 (.int .u16 0) 2 rfl Try.underlying38 infoStored rfl (by decide) (.slice none 0 0) [] m0 A0 m0.length c0 (fun _ => True) rfl rfl ?aF ?aO ?aR ?aB ?aS ?aL ?_; (case aF => exact fun _ _ => trivial); (case aO => exact Kd.R_nil _ _ _ _ _); (case aR => exact (Kd.C_below hC0.out (by repeat (first | (with_reducible first | exact HB.out | apply below_alloc | apply pw_below_drewN | apply below_drew1) | exact HB.out)))); (case aB => exact (by repeat (first | (with_reducible first | exact HB.out | apply below_alloc | apply pw_below_drewN | apply below_drew1) | exact HB.out))); (case aS => exact (below_size (by repeat (first | (with_reducible first | exact HB.out | apply below_alloc | apply pw_below_drewN | apply below_drew1) | exact HB.out)))); (case aL => simp; omega); intro vo wo ho hb hg hat; rw [List.nil_append] at ho; obtain ⟨Ao, co, rfl, hco, hCo⟩ := Kd.R_reads ho; have Ho : Aside0 (Kd.C (Kd.int .u16) _ _ _ _) := Aside0.mk hCo; clear ho hg hat hCo HB; have HB := Aside0.mk hb; clear hb) | (go_at_call 18; (with_reducible refine at_args #[.slice A0 _ c0, .int .i64 a] ?_); (with_reducible refine (RD.out _ (Kd.C_below hC0.out (by repeat (first | (with_reducible first | exact HB.out | apply below_alloc | apply pw_below_drewN | apply below_drew1) | exact HB.out)))).mono ?_); rintro e w' ⟨rfl, ⟨nd, rfl⟩⟩) | (go_at_call 19; (with_reducible refine at_args #[.slice Ao _ co, .int .i64 a] ?_); (with_reducible refine (RR.out _ _ _ (by (with_reducible repeat (first | apply Kd.C_alloc | apply Kd.C_drewN | apply Kd.C_drew)); exact Ho.out) hco).mono ?_); rintro e w' ⟨rfl, ⟨nd, rfl⟩⟩))
  have W6 := Lib.hid (Eq.refl m1.length)
  go_loopg [12] m1.length (fun g v12 w' => ∃ i : Int, v12 = .int .i64 i ∧ 0 ≤ i ∧ Aside0 (i + g = m1.length) ∧ Aside0 (Kd.C (Kd.int .u16) w' Ao m0.length m0) ∧ Aside0 (Below w.heap.size w w'))
  case atStart => exact ⟨0, rfl, by decide, ⟨by omega⟩, ⟨(by (with_reducible repeat (first | apply Kd.C_alloc | apply Kd.C_drewN | apply Kd.C_drew)); exact Ho.out)⟩, ⟨by repeat (first | (with_reducible first | exact HB.out | apply below_alloc | apply pw_below_drewN | apply below_drew1) | exact HB.out)⟩⟩
  case round =>
    clear HB Ho RD RR hn0 hn1
    obtain ⟨i, rfl, h0, hg, Ho, HB⟩ := hrel
    by_cases hlt : i < (m1.length : Int)
    · have b0 : decide (i < (m1.length : Int)) = true := decide_eq_true hlt
      by_cases h5 : i < 5
      · obtain ⟨g, rfl⟩ : ∃ g, gk = g + 1 := ⟨gk - 1, by have := hg.out; omega⟩
        have b1 : decide (i < 5) = true := decide_eq_true h5
        obtain ⟨ad, eA, hx0, hx1⟩ := at_T46 (Kd.C_below hC1.out HB.out) i h0 hlt
        cases eA
        obtain ⟨r0, r1⟩ := hbm1.out i h0 hlt
        replace r0 := Lib.hid r0
        replace r1 := Lib.hid r1
        have hlt' := eq_true hlt
        go_wp2
        refine start_ (n := 17) (S := fun w' => w'.cell? (ad.add (i.toNat * 2)) = some (.int .i64 (rd_T46 m1 i).f0) ∧ w'.cell? ⟨(ad.add (i.toNat * 2)).block, (ad.add (i.toNat * 2)).off + 1, none⟩ = some (.int .u16 (rd_T46 m1 i).f1)) (ds := []) #[false, false, false, false, false, false, false, false, false, false, false, false, false, false, false, false, false] (by kernel_rfl) rfl rfl ⟨hx0, hx1⟩ (fun hHeld => ?_)
        skip
        refine pure_ (i := 0) (N := some 63) (v := ?_) (a' := ?_) #[true, false, false, false, false, false, false, false, false, false, false, false, false, false, false, false, false] rfl rfl (by kernel_rfl) (fun _ _ _ h => h) (Or.inl ⟨by rfl, ?_⟩) ?_ ?_
        rotate_left
        · intro w'
          go_simp
          with_reducible rfl
        rotate_left
        · simp only [Act.put, List.setIfInBounds_toArray, List.set_cons_zero, List.set_cons_succ, i64_w, i32_w]
          rfl
        refine pure_ (i := 1) (N := some 64) (v := ?_) (a' := ?_) #[true, true, false, false, false, false, false, false, false, false, false, false, false, false, false, false, false] rfl rfl (by kernel_rfl) (fun _ _ _ h => h) (Or.inl ⟨by rfl, ?_⟩) ?_ ?_
        rotate_left
        · intro w'
          go_simp
          with_reducible rfl
        rotate_left
        · simp only [Act.put, List.setIfInBounds_toArray, List.set_cons_zero, List.set_cons_succ, i64_w, i32_w]
          rfl
        refine pure_ (i := 2) (N := some 65) (v := ?_) (a' := ?_) #[true, true, true, false, false, false, false, false, false, false, false, false, false, false, false, false, false] rfl rfl (by kernel_rfl) (fun _ _ _ h => h) (Or.inl ⟨by rfl, ?_⟩) ?_ ?_
        rotate_left
        · intro w'
          go_simp
          with_reducible rfl
        rotate_left
        · simp only [Act.put, List.setIfInBounds_toArray, List.set_cons_zero, List.set_cons_succ, i64_w, i32_w]
          rfl
        refine pure_ (i := 3) (N := some 66) (v := ?_) (a' := ?_) #[true, true, true, true, false, false, false, false, false, false, false, false, false, false, false, false, false] rfl rfl (by kernel_rfl) (fun _ _ _ h => h) (Or.inl ⟨by rfl, ?_⟩) ?_ ?_
        rotate_left
        · intro w'
          go_simp
          with_reducible rfl
        rotate_left
        · simp only [Act.put, List.setIfInBounds_toArray, List.set_cons_zero, List.set_cons_succ, i64_w, i32_w]
          rfl
        refine pure_ (i := 4) (N := some 67) (v := ?_) (a' := ?_) #[true, true, true, true, true, false, false, false, false, false, false, false, false, false, false, false, false] rfl rfl (by kernel_rfl) (fun _ _ _ h => h) (Or.inl ⟨by rfl, ?_⟩) ?_ ?_
        rotate_left
        · intro w'
          go_simp
          with_reducible rfl
        rotate_left
        · simp only [Act.put, List.setIfInBounds_toArray, List.set_cons_zero, List.set_cons_succ, i64_w, i32_w]
          rfl
        refine pure_ (i := 6) (N := some 69) (v := ?_) (a' := ?_) #[true, true, true, true, true, false, true, false, false, false, false, false, false, false, false, false, false] rfl rfl (by kernel_rfl) (fun _ _ _ h => h) (Or.inl ⟨by rfl, ?_⟩) ?_ ?_
        rotate_left
        · intro w'
          go_simp
          with_reducible rfl
        rotate_left
        · simp only [Act.put, List.setIfInBounds_toArray, List.set_cons_zero, List.set_cons_succ, i64_w, i32_w]
          rfl
        refine pure_ (i := 7) (N := some 70) (v := ?_) (a' := ?_) #[true, true, true, true, true, false, true, true, false, false, false, false, false, false, false, false, false] rfl rfl (by kernel_rfl) (fun _ _ _ h => h) (Or.inl ⟨by rfl, ?_⟩) ?_ ?_
        rotate_left
        · intro w'
          go_simp
          with_reducible rfl
        rotate_left
        · simp only [Act.put, List.setIfInBounds_toArray, List.set_cons_zero, List.set_cons_succ, i64_w, i32_w]
          rfl
        refine pure_ (i := 8) (N := some 71) (v := ?_) (a' := ?_) #[true, true, true, true, true, false, true, true, true, false, false, false, false, false, false, false, false] rfl rfl (by kernel_rfl) (fun _ _ _ h => h) (Or.inl ⟨by rfl, ?_⟩) ?_ ?_
        rotate_left
        · intro w'
          go_simp
          with_reducible rfl
        rotate_left
        · simp only [Act.put, List.setIfInBounds_toArray, List.set_cons_zero, List.set_cons_succ, i64_w, i32_w]
          rfl
        refine pure_ (i := 9) (N := some 72) (v := ?_) (a' := ?_) #[true, true, true, true, true, false, true, true, true, true, false, false, false, false, false, false, false] rfl rfl (by kernel_rfl) (fun _ _ _ h => h) (Or.inl ⟨by rfl, ?_⟩) ?_ ?_
        rotate_left
        · intro w'
          go_simp
          with_reducible rfl
        rotate_left
        · simp only [Act.put, List.setIfInBounds_toArray, List.set_cons_zero, List.set_cons_succ, i64_w, i32_w]
          rfl
        refine take_ (i := 5) (N := some 68) (v := ?_) (a' := ?_) #[true, true, true, true, true, true, true, true, true, true, false, false, false, false, false, false, false] rfl rfl (by kernel_rfl) (fun _ _ _ h => h) (Or.inl ⟨by rfl, ?_⟩) hHeld ?_ ?_
        rotate_left
        · rintro w' ⟨s0, s1⟩
          go_simp
          with_reducible rfl
        rotate_left
        · simp only [Act.put, List.setIfInBounds_toArray, List.set_cons_zero, List.set_cons_succ, i64_w, i32_w]
          rfl
        refine take_ (i := 10) (N := some 73) (v := ?_) (a' := ?_) #[true, true, true, true, true, true, true, true, true, true, true, false, false, false, false, false, false] rfl rfl (by kernel_rfl) (fun _ _ _ h => h) (Or.inl ⟨by rfl, ?_⟩) hHeld ?_ ?_
        rotate_left
        · rintro w' ⟨s0, s1⟩
          go_simp
          with_reducible rfl
        rotate_left
        · simp only [Act.put, List.setIfInBounds_toArray, List.set_cons_zero, List.set_cons_succ, i64_w, i32_w]
          rfl
        refine one_ (i := 11) (N := some 74) #[true, true, true, true, true, true, true, true, true, true, true, true, false, false, false, false, false] rfl rfl (by kernel_rfl) (by decide) (fun K hK => ?_)
        refine goes_ Try.func20 (by kernel_rfl) rfl #[.slice A0 _ c0, .int .i64 (rd_T46 m1 i).f0, .int .u16 (rd_T46 m1 i).f1] (by rfl) rfl rfl (by simp only [List.map_toArray, List.map_cons, List.map_nil]; rfl) ?_
        with_reducible refine (MW.out i _ (Kd.C_below hC0.out (by repeat (first | (with_reducible first | exact HB.out | apply below_alloc | apply pw_below_drewN | apply below_drew1) | exact HB.out))) r0.out r1.out).mono ?_
        rintro e w3 ⟨va, rfl, hRa, hba⟩
        refine ⟨_, rfl, ?_⟩
        obtain ⟨Aa, ca, rfl, hca, hCa⟩ := Kd.R_reads hRa
        have Ha := Aside0.mk hCa
        clear hRa hCa
        replace Ho := Aside0.mk (by first | exact Kd.C_below Ho.out hba | exact Kd.C_below (Kd.C_drewN Ho.out _) hba)
        replace hx0 := (hba.cell (World.block_lt_of_cell? _ _ hx0)).trans hx0
        replace hx1 := (hba.cell (World.block_lt_of_cell? _ _ hx1)).trans hx1
        have HBn := Aside0.mk (below_step (by repeat (first | (with_reducible first | exact HB.out | apply below_alloc | apply pw_below_drewN | apply below_drew1) | exact HB.out)) hba)
        clear HB hba
        have HB := HBn
        clear HBn
        refine hK.out _ _ ⟨hx0, hx1⟩ (fun hHeld => ?_)
        clear hK K
        refine norm_ (a' := ?_) ?_ ?_
        rotate_left
        · show Act.put _ (some 74) _ = _
          simp only [Act.put, List.setIfInBounds_toArray, List.set_cons_zero, List.set_cons_succ, i64_w, i32_w]
          rfl
        refine pure_ (i := 12) (N := some 62) (v := ?_) (a' := ?_) #[true, true, true, true, true, true, true, true, true, true, true, true, true, false, false, false, false] rfl rfl (by kernel_rfl) (fun _ _ _ h => h) (Or.inl ⟨by rfl, ?_⟩) ?_ ?_
        rotate_left
        · intro w'
          go_simp
          with_reducible rfl
        rotate_left
        · simp only [Act.put, List.setIfInBounds_toArray, List.set_cons_zero, List.set_cons_succ, i64_w, i32_w]
          rfl
        refine pure_ (i := 13) (N := some 75) (v := ?_) (a' := ?_) #[true, true, true, true, true, true, true, true, true, true, true, true, true, true, false, false, false] rfl rfl (by kernel_rfl) (fun _ _ _ h => h) (Or.inl ⟨by rfl, ?_⟩) ?_ ?_
        rotate_left
        · intro w'
          go_simp
          with_reducible rfl
        rotate_left
        · simp only [Act.put, List.setIfInBounds_toArray, List.set_cons_zero, List.set_cons_succ, i64_w, i32_w]
          rfl
        refine pure_ (i := 14) (N := some 76) (v := ?_) (a' := ?_) #[true, true, true, true, true, true, true, true, true, true, true, true, true, true, true, false, false] rfl rfl (by kernel_rfl) (fun _ _ _ h => h) (Or.inl ⟨by rfl, ?_⟩) ?_ ?_
        rotate_left
        · intro w'
          go_simp
          with_reducible rfl
        rotate_left
        · simp only [Act.put, List.setIfInBounds_toArray, List.set_cons_zero, List.set_cons_succ, i64_w, i32_w]
          rfl
        refine pure_ (i := 15) (N := some 13) (v := ?_) (a' := ?_) #[true, true, true, true, true, true, true, true, true, true, true, true, true, true, true, true, false] rfl rfl (by kernel_rfl) (fun _ _ _ h => h) (Or.inl ⟨by rfl, ?_⟩) ?_ ?_
        rotate_left
        · intro w'
          go_simp
          with_reducible rfl
        rotate_left
        · simp only [Act.put, List.setIfInBounds_toArray, List.set_cons_zero, List.set_cons_succ, i64_w, i32_w]
          rfl
        refine pure_ (i := 16) (N := some 14) (v := ?_) (a' := ?_) #[true, true, true, true, true, true, true, true, true, true, true, true, true, true, true, true, true] rfl rfl (by kernel_rfl) (fun _ _ _ h => h) (Or.inl ⟨by rfl, ?_⟩) ?_ ?_
        rotate_left
        · intro w'
          go_simp
          with_reducible rfl
        rotate_left
        · simp only [Act.put, List.setIfInBounds_toArray, List.set_cons_zero, List.set_cons_succ, i64_w, i32_w]
          rfl
        refine done_ (by kernel_rfl) ?_
        go_wp2
        refine start_ (n := 17) (S := fun w' => w'.cell? (ad.add (i.toNat * 2)) = some (.int .i64 (rd_T46 m1 i).f0) ∧ w'.cell? ⟨(ad.add (i.toNat * 2)).block, (ad.add (i.toNat * 2)).off + 1, none⟩ = some (.int .u16 (rd_T46 m1 i).f1)) (ds := []) #[false, false, false, false, false, false, false, false, false, false, false, false, false, false, false, false, false] (by kernel_rfl) rfl rfl ⟨hx0, hx1⟩ (fun hHeld => ?_)
        skip
        refine pure_ (i := 0) (N := some 78) (v := ?_) (a' := ?_) #[true, false, false, false, false, false, false, false, false, false, false, false, false, false, false, false, false] rfl rfl (by kernel_rfl) (fun _ _ _ h => h) (Or.inl ⟨by rfl, ?_⟩) ?_ ?_
        rotate_left
        · intro w'
          go_simp
          with_reducible rfl
        rotate_left
        · simp only [Act.put, List.setIfInBounds_toArray, List.set_cons_zero, List.set_cons_succ, i64_w, i32_w]
          rfl
        refine pure_ (i := 1) (N := some 79) (v := ?_) (a' := ?_) #[true, true, false, false, false, false, false, false, false, false, false, false, false, false, false, false, false] rfl rfl (by kernel_rfl) (fun _ _ _ h => h) (Or.inl ⟨by rfl, ?_⟩) ?_ ?_
        rotate_left
        · intro w'
          go_simp
          with_reducible rfl
        rotate_left
        · simp only [Act.put, List.setIfInBounds_toArray, List.set_cons_zero, List.set_cons_succ, i64_w, i32_w]
          rfl
        refine pure_ (i := 2) (N := some 80) (v := ?_) (a' := ?_) #[true, true, true, false, false, false, false, false, false, false, false, false, false, false, false, false, false] rfl rfl (by kernel_rfl) (fun _ _ _ h => h) (Or.inl ⟨by rfl, ?_⟩) ?_ ?_
        rotate_left
        · intro w'
          go_simp
          with_reducible rfl
        rotate_left
        · simp only [Act.put, List.setIfInBounds_toArray, List.set_cons_zero, List.set_cons_succ, i64_w, i32_w]
          rfl
        refine pure_ (i := 3) (N := some 81) (v := ?_) (a' := ?_) #[true, true, true, true, false, false, false, false, false, false, false, false, false, false, false, false, false] rfl rfl (by kernel_rfl) (fun _ _ _ h => h) (Or.inl ⟨by rfl, ?_⟩) ?_ ?_
        rotate_left
        · intro w'
          go_simp
          with_reducible rfl
        rotate_left
        · simp only [Act.put, List.setIfInBounds_toArray, List.set_cons_zero, List.set_cons_succ, i64_w, i32_w]
          rfl
        refine pure_ (i := 4) (N := some 82) (v := ?_) (a' := ?_) #[true, true, true, true, true, false, false, false, false, false, false, false, false, false, false, false, false] rfl rfl (by kernel_rfl) (fun _ _ _ h => h) (Or.inl ⟨by rfl, ?_⟩) ?_ ?_
        rotate_left
        · intro w'
          go_simp
          with_reducible rfl
        rotate_left
        · simp only [Act.put, List.setIfInBounds_toArray, List.set_cons_zero, List.set_cons_succ, i64_w, i32_w]
          rfl
        refine pure_ (i := 6) (N := some 84) (v := ?_) (a' := ?_) #[true, true, true, true, true, false, true, false, false, false, false, false, false, false, false, false, false] rfl rfl (by kernel_rfl) (fun _ _ _ h => h) (Or.inl ⟨by rfl, ?_⟩) ?_ ?_
        rotate_left
        · intro w'
          go_simp
          with_reducible rfl
        rotate_left
        · simp only [Act.put, List.setIfInBounds_toArray, List.set_cons_zero, List.set_cons_succ, i64_w, i32_w]
          rfl
        refine pure_ (i := 7) (N := some 85) (v := ?_) (a' := ?_) #[true, true, true, true, true, false, true, true, false, false, false, false, false, false, false, false, false] rfl rfl (by kernel_rfl) (fun _ _ _ h => h) (Or.inl ⟨by rfl, ?_⟩) ?_ ?_
        rotate_left
        · intro w'
          go_simp
          with_reducible rfl
        rotate_left
        · simp only [Act.put, List.setIfInBounds_toArray, List.set_cons_zero, List.set_cons_succ, i64_w, i32_w]
          rfl
        refine pure_ (i := 8) (N := some 86) (v := ?_) (a' := ?_) #[true, true, true, true, true, false, true, true, true, false, false, false, false, false, false, false, false] rfl rfl (by kernel_rfl) (fun _ _ _ h => h) (Or.inl ⟨by rfl, ?_⟩) ?_ ?_
        rotate_left
        · intro w'
          go_simp
          with_reducible rfl
        rotate_left
        · simp only [Act.put, List.setIfInBounds_toArray, List.set_cons_zero, List.set_cons_succ, i64_w, i32_w]
          rfl
        refine pure_ (i := 9) (N := some 87) (v := ?_) (a' := ?_) #[true, true, true, true, true, false, true, true, true, true, false, false, false, false, false, false, false] rfl rfl (by kernel_rfl) (fun _ _ _ h => h) (Or.inl ⟨by rfl, ?_⟩) ?_ ?_
        rotate_left
        · intro w'
          go_simp
          with_reducible rfl
        rotate_left
        · simp only [Act.put, List.setIfInBounds_toArray, List.set_cons_zero, List.set_cons_succ, i64_w, i32_w]
          rfl
        refine take_ (i := 5) (N := some 83) (v := ?_) (a' := ?_) #[true, true, true, true, true, true, true, true, true, true, false, false, false, false, false, false, false] rfl rfl (by kernel_rfl) (fun _ _ _ h => h) (Or.inl ⟨by rfl, ?_⟩) hHeld ?_ ?_
        rotate_left
        · rintro w' ⟨s0, s1⟩
          go_simp
          with_reducible rfl
        rotate_left
        · simp only [Act.put, List.setIfInBounds_toArray, List.set_cons_zero, List.set_cons_succ, i64_w, i32_w]
          rfl
        refine take_ (i := 10) (N := some 88) (v := ?_) (a' := ?_) #[true, true, true, true, true, true, true, true, true, true, true, false, false, false, false, false, false] rfl rfl (by kernel_rfl) (fun _ _ _ h => h) (Or.inl ⟨by rfl, ?_⟩) hHeld ?_ ?_
        rotate_left
        · rintro w' ⟨s0, s1⟩
          go_simp
          with_reducible rfl
        rotate_left
        · simp only [Act.put, List.setIfInBounds_toArray, List.set_cons_zero, List.set_cons_succ, i64_w, i32_w]
          rfl
        refine one_ (i := 11) (N := some 89) #[true, true, true, true, true, true, true, true, true, true, true, true, false, false, false, false, false] rfl rfl (by kernel_rfl) (by decide) (fun K hK => ?_)
        refine goes_ Try.func21 (by kernel_rfl) rfl #[.slice Ao _ co, .int .i64 (rd_T46 m1 i).f0, .int .u16 (rd_T46 m1 i).f1] (by rfl) rfl rfl (by simp only [List.map_toArray, List.map_cons, List.map_nil]; rfl) ?_
        with_reducible refine (MR.out _ _ i _ (by (with_reducible repeat (first | apply Kd.C_alloc | apply Kd.C_drewN | apply Kd.C_drew)); exact Ho.out) hco r0.out r1.out).mono ?_
        rintro e w3 ⟨vb, rfl, hRb, hbb⟩
        refine ⟨_, rfl, ?_⟩
        obtain ⟨Ab, cb, rfl, hcb, hCb⟩ := Kd.R_reads hRb
        have Hb := Aside0.mk hCb
        clear hRb hCb
        replace Ho := Aside0.mk (by first | exact Kd.C_below Ho.out hbb | exact Kd.C_below (Kd.C_drewN Ho.out _) hbb)
        replace Ha := Aside0.mk (by first | exact Kd.C_below Ha.out hbb | exact Kd.C_below (Kd.C_drewN Ha.out _) hbb)
        replace hx0 := (hbb.cell (World.block_lt_of_cell? _ _ hx0)).trans hx0
        replace hx1 := (hbb.cell (World.block_lt_of_cell? _ _ hx1)).trans hx1
        have HBn := Aside0.mk (below_step (by repeat (first | (with_reducible first | exact HB.out | apply below_alloc | apply pw_below_drewN | apply below_drew1) | exact HB.out)) hbb)
        clear HB hbb
        have HB := HBn
        clear HBn
        refine hK.out _ _ ⟨hx0, hx1⟩ (fun hHeld => ?_)
        clear hK K
        refine norm_ (a' := ?_) ?_ ?_
        rotate_left
        · show Act.put _ (some 89) _ = _
          simp only [Act.put, List.setIfInBounds_toArray, List.set_cons_zero, List.set_cons_succ, i64_w, i32_w]
          rfl
        refine pure_ (i := 12) (N := some 77) (v := ?_) (a' := ?_) #[true, true, true, true, true, true, true, true, true, true, true, true, true, false, false, false, false] rfl rfl (by kernel_rfl) (fun _ _ _ h => h) (Or.inl ⟨by rfl, ?_⟩) ?_ ?_
        rotate_left
        · intro w'
          go_simp
          with_reducible rfl
        rotate_left
        · simp only [Act.put, List.setIfInBounds_toArray, List.set_cons_zero, List.set_cons_succ, i64_w, i32_w]
          rfl
        refine pure_ (i := 13) (N := some 90) (v := ?_) (a' := ?_) #[true, true, true, true, true, true, true, true, true, true, true, true, true, true, false, false, false] rfl rfl (by kernel_rfl) (fun _ _ _ h => h) (Or.inl ⟨by rfl, ?_⟩) ?_ ?_
        rotate_left
        · intro w'
          go_simp
          with_reducible rfl
        rotate_left
        · simp only [Act.put, List.setIfInBounds_toArray, List.set_cons_zero, List.set_cons_succ, i64_w, i32_w]
          rfl
        refine pure_ (i := 14) (N := some 91) (v := ?_) (a' := ?_) #[true, true, true, true, true, true, true, true, true, true, true, true, true, true, true, false, false] rfl rfl (by kernel_rfl) (fun _ _ _ h => h) (Or.inl ⟨by rfl, ?_⟩) ?_ ?_
        rotate_left
        · intro w'
          go_simp
          with_reducible rfl
        rotate_left
        · simp only [Act.put, List.setIfInBounds_toArray, List.set_cons_zero, List.set_cons_succ, i64_w, i32_w]
          rfl
        refine pure_ (i := 15) (N := some 15) (v := ?_) (a' := ?_) #[true, true, true, true, true, true, true, true, true, true, true, true, true, true, true, true, false] rfl rfl (by kernel_rfl) (fun _ _ _ h => h) (Or.inl ⟨by rfl, ?_⟩) ?_ ?_
        rotate_left
        · intro w'
          go_simp
          with_reducible rfl
        rotate_left
        · simp only [Act.put, List.setIfInBounds_toArray, List.set_cons_zero, List.set_cons_succ, i64_w, i32_w]
          rfl
        refine pure_ (i := 16) (N := some 16) (v := ?_) (a' := ?_) #[true, true, true, true, true, true, true, true, true, true, true, true, true, true, true, true, true] rfl rfl (by kernel_rfl) (fun _ _ _ h => h) (Or.inl ⟨by rfl, ?_⟩) ?_ ?_
        rotate_left
        · intro w'
          go_simp
          with_reducible rfl
        rotate_left
        · simp only [Act.put, List.setIfInBounds_toArray, List.set_cons_zero, List.set_cons_succ, i64_w, i32_w]
          rfl
        refine done_ (by kernel_rfl) ?_
        have hn3 : (wrE m0.length (rd_T46 m1 i).f0 != wrE m0.length (rd_T46 m1 i).f0) = false := bne_self_eq_false _
        go_wp2_with (go_at_call 22; (with_reducible refine at_args #[.slice Aa _ ca, .slice Ab _ cb] ?_); (with_reducible refine (Same_c Aa ca Ab cb (wrL m0 (rd_T46 m1 i).f0 (rd_T46 m1 i).f1) _ _ rfl rfl _ (by (with_reducible repeat (first | apply Kd.C_alloc | apply Kd.C_drewN | apply Kd.C_drew)); exact Ha.out) hca (by (with_reducible repeat (first | apply Kd.C_alloc | apply Kd.C_drewN | apply Kd.C_drew)); exact Hb.out) hcb (LR.out i)).mono ?_); rintro e w' ⟨rfl, ⟨nd, rfl⟩⟩)
        go_roundg g
        case measure => omega
        case rel => exact ⟨i + 1, rfl, by omega, ⟨by have := hg.out; omega⟩, ⟨(by (with_reducible repeat (first | apply Kd.C_alloc | apply Kd.C_drewN | apply Kd.C_drew)); exact Ho.out)⟩, ⟨by repeat (first | (with_reducible first | exact HB.out | apply below_alloc | apply pw_below_drewN | apply below_drew1) | exact HB.out)⟩⟩
      · have b1 : decide (i < 5) = false := decide_eq_false h5
        clear h5 h0 hg
        go_wp2_with (first | (go_at_call 23; (with_reducible refine at_args #[.slice A0 _ c0, .slice A1 _ c1] ?_); (with_reducible refine (AP.out _ (Kd.C_below hC0.out (by repeat (first | (with_reducible first | exact HB.out | apply below_alloc | apply pw_below_drewN | apply below_drew1) | exact HB.out))) (Kd.C_below hC1.out (by repeat (first | (with_reducible first | exact HB.out | apply below_alloc | apply pw_below_drewN | apply below_drew1) | exact HB.out)))).mono ?_); rintro e w' ⟨vp, rfl, hRp, hbp⟩; obtain ⟨Ap, cp, rfl, hcp, hCp⟩ := Kd.R_reads hRp; have Hp := Aside0.mk hCp; clear hRp hCp; replace Ho := Aside0.mk (by first | exact Kd.C_below Ho.out hbp | exact Kd.C_below (Kd.C_drewN Ho.out _) hbp); have HBn := Aside0.mk (below_step (by repeat (first | (with_reducible first | exact HB.out | apply below_alloc | apply pw_below_drewN | apply below_drew1) | exact HB.out)) hbp); clear HB hbp; have HB := HBn; clear HBn) | (go_at_call 24; (with_reducible refine at_args #[.slice Ao _ co, .slice A1 _ c1] ?_); (with_reducible refine (AR.out _ _ _ (by (with_reducible repeat (first | apply Kd.C_alloc | apply Kd.C_drewN | apply Kd.C_drew)); exact Ho.out) hco (Kd.C_below hC1.out (by repeat (first | (with_reducible first | exact HB.out | apply below_alloc | apply pw_below_drewN | apply below_drew1) | exact HB.out)))).mono ?_); rintro e w' ⟨vq, rfl, hRq, hbq⟩; obtain ⟨Aq, cq, rfl, hcq, hCq⟩ := Kd.R_reads hRq; have Hq := Aside0.mk hCq; clear hRq hCq; replace Ho := Aside0.mk (by first | exact Kd.C_below Ho.out hbq | exact Kd.C_below (Kd.C_drewN Ho.out _) hbq); replace Hp := Aside0.mk (by first | exact Kd.C_below Hp.out hbq | exact Kd.C_below (Kd.C_drewN Hp.out _) hbq); have HBn := Aside0.mk (below_step (by repeat (first | (with_reducible first | exact HB.out | apply below_alloc | apply pw_below_drewN | apply below_drew1) | exact HB.out)) hbq); clear HB hbq; have HB := HBn; clear HBn) | (go_at_call 22; (with_reducible refine at_args #[.slice Ap _ cp, .slice Aq _ cq] ?_); (with_reducible refine (Same_c Ap cp Aq cq (apL m0 m1) _ _ rfl rfl _ (by (with_reducible repeat (first | apply Kd.C_alloc | apply Kd.C_drewN | apply Kd.C_drew)); exact Hp.out) hcp (by (with_reducible repeat (first | apply Kd.C_alloc | apply Kd.C_drewN | apply Kd.C_drew)); exact Hq.out) hcq LA.out).mono ?_); rintro e w' ⟨rfl, ⟨nd, rfl⟩⟩) | (go_at_call 26; (with_reducible refine at_args #[.slice A0 _ c0] ?_); (with_reducible refine (WW.out _ (Kd.C_below hC0.out (by repeat (first | (with_reducible first | exact HB.out | apply below_alloc | apply pw_below_drewN | apply below_drew1) | exact HB.out)))).mono ?_); rintro e w' ⟨vr, rfl, hRr, hbr⟩; obtain ⟨Ar, cr, rfl, hcr, hCr⟩ := Kd.R_reads hRr; have Hr := Aside0.mk hCr; clear hRr hCr; replace Ho := Aside0.mk (by first | exact Kd.C_below Ho.out hbr | exact Kd.C_below (Kd.C_drewN Ho.out _) hbr); replace Hp := Aside0.mk (by first | exact Kd.C_below Hp.out hbr | exact Kd.C_below (Kd.C_drewN Hp.out _) hbr); replace Hq := Aside0.mk (by first | exact Kd.C_below Hq.out hbr | exact Kd.C_below (Kd.C_drewN Hq.out _) hbr); have HBn := Aside0.mk (below_step (by repeat (first | (with_reducible first | exact HB.out | apply below_alloc | apply pw_below_drewN | apply below_drew1) | exact HB.out)) hbr); clear HB hbr; have HB := HBn; clear HBn) | (go_at_call 27; (with_reducible refine at_args #[.slice Ao _ co] ?_); (with_reducible refine (WR.out _ _ _ (by (with_reducible repeat (first | apply Kd.C_alloc | apply Kd.C_drewN | apply Kd.C_drew)); exact Ho.out) hco).mono ?_); rintro e w' ⟨vs, rfl, hRs, hbs⟩; obtain ⟨As, cs, rfl, hcs, hCs⟩ := Kd.R_reads hRs; have Hs := Aside0.mk hCs; clear hRs hCs; replace Ho := Aside0.mk (by first | exact Kd.C_below Ho.out hbs | exact Kd.C_below (Kd.C_drewN Ho.out _) hbs); replace Hp := Aside0.mk (by first | exact Kd.C_below Hp.out hbs | exact Kd.C_below (Kd.C_drewN Hp.out _) hbs); replace Hq := Aside0.mk (by first | exact Kd.C_below Hq.out hbs | exact Kd.C_below (Kd.C_drewN Hq.out _) hbs); replace Hr := Aside0.mk (by first | exact Kd.C_below Hr.out hbs | exact Kd.C_below (Kd.C_drewN Hr.out _) hbs); have HBn := Aside0.mk (below_step (by repeat (first | (with_reducible first | exact HB.out | apply below_alloc | apply pw_below_drewN | apply below_drew1) | exact HB.out)) hbs); clear HB hbs; have HB := HBn; clear HBn) | (go_at_call 25; (with_reducible refine at_args #[.slice Ar _ cr, .slice As _ cs] ?_); (with_reducible refine (WordsEq_c Ar cr As cs (wordsL m0) _ _ rfl rfl _ (by (with_reducible repeat (first | apply Kd.C_alloc | apply Kd.C_drewN | apply Kd.C_drew)); exact Hr.out) hcr (by (with_reducible repeat (first | apply Kd.C_alloc | apply Kd.C_drewN | apply Kd.C_drew)); exact Hs.out) hcs LW.out).mono ?_); rintro e w' ⟨rfl, ⟨nd, rfl⟩⟩) | (go_at_call 22; (with_reducible refine at_args #[.slice A0 _ c0, .slice Ao _ co] ?_); (with_reducible refine (Same_c A0 c0 Ao co m0 _ _ rfl rfl _ (Kd.C_below hC0.out (by repeat (first | (with_reducible first | exact HB.out | apply below_alloc | apply pw_below_drewN | apply below_drew1) | exact HB.out))) hmc0 (by (with_reducible repeat (first | apply Kd.C_alloc | apply Kd.C_drewN | apply Kd.C_drew)); exact Ho.out) hco (by omega)).mono ?_); rintro e w' ⟨rfl, ⟨nd, rfl⟩⟩) | (go_at_call 16; (with_reducible refine at_args #[] ?_); (with_reducible refine (works_c _).mono ?_); rintro e w' ⟨rfl, hbw⟩; have HBn := Aside0.mk (below_step (by repeat (first | (with_reducible first | exact HB.out | apply below_alloc | apply pw_below_drewN | apply below_drew1) | exact HB.out)) hbw); clear HB hbw; have HB := HBn; clear HBn))
        go_ret
        exact ⟨rfl, by repeat (first | (with_reducible first | exact HB.out | apply below_alloc | apply pw_below_drewN | apply below_drew1) | exact HB.out)⟩
    · have b0 : decide (i < (m1.length : Int)) = false := decide_eq_false hlt
      clear h0 hg
      go_wp2_with (first | (go_at_call 23; (with_reducible refine at_args #[.slice A0 _ c0, .slice A1 _ c1] ?_); (with_reducible refine (AP.out _ (Kd.C_below hC0.out (by repeat (first | (with_reducible first | exact HB.out | apply below_alloc | apply pw_below_drewN | apply below_drew1) | exact HB.out))) (Kd.C_below hC1.out (by repeat (first | (with_reducible first | exact HB.out | apply below_alloc | apply pw_below_drewN | apply below_drew1) | exact HB.out)))).mono ?_); rintro e w' ⟨vp, rfl, hRp, hbp⟩; obtain ⟨Ap, cp, rfl, hcp, hCp⟩ := Kd.R_reads hRp; have Hp := Aside0.mk hCp; clear hRp hCp; replace Ho := Aside0.mk (by first | exact Kd.C_below Ho.out hbp | exact Kd.C_below (Kd.C_drewN Ho.out _) hbp); have HBn := Aside0.mk (below_step (by repeat (first | (with_reducible first | exact HB.out | apply below_alloc | apply pw_below_drewN | apply below_drew1) | exact HB.out)) hbp); clear HB hbp; have HB := HBn; clear HBn) | (go_at_call 24; (with_reducible refine at_args #[.slice Ao _ co, .slice A1 _ c1] ?_); (with_reducible refine (AR.out _ _ _ (by (with_reducible repeat (first | apply Kd.C_alloc | apply Kd.C_drewN | apply Kd.C_drew)); exact Ho.out) hco (Kd.C_below hC1.out (by repeat (first | (with_reducible first | exact HB.out | apply below_alloc | apply pw_below_drewN | apply below_drew1) | exact HB.out)))).mono ?_); rintro e w' ⟨vq, rfl, hRq, hbq⟩; obtain ⟨Aq, cq, rfl, hcq, hCq⟩ := Kd.R_reads hRq; have Hq := Aside0.mk hCq; clear hRq hCq; replace Ho := Aside0.mk (by first | exact Kd.C_below Ho.out hbq | exact Kd.C_below (Kd.C_drewN Ho.out _) hbq); replace Hp := Aside0.mk (by first | exact Kd.C_below Hp.out hbq | exact Kd.C_below (Kd.C_drewN Hp.out _) hbq); have HBn := Aside0.mk (below_step (by repeat (first | (with_reducible first | exact HB.out | apply below_alloc | apply pw_below_drewN | apply below_drew1) | exact HB.out)) hbq); clear HB hbq; have HB := HBn; clear HBn) | (go_at_call 22; (with_reducible refine at_args #[.slice Ap _ cp, .slice Aq _ cq] ?_); (with_reducible refine (Same_c Ap cp Aq cq (apL m0 m1) _ _ rfl rfl _ (by (with_reducible repeat (first | apply Kd.C_alloc | apply Kd.C_drewN | apply Kd.C_drew)); exact Hp.out) hcp (by (with_reducible repeat (first | apply Kd.C_alloc | apply Kd.C_drewN | apply Kd.C_drew)); exact Hq.out) hcq LA.out).mono ?_); rintro e w' ⟨rfl, ⟨nd, rfl⟩⟩) | (go_at_call 26; (with_reducible refine at_args #[.slice A0 _ c0] ?_); (with_reducible refine (WW.out _ (Kd.C_below hC0.out (by repeat (first | (with_reducible first | exact HB.out | apply below_alloc | apply pw_below_drewN | apply below_drew1) | exact HB.out)))).mono ?_); rintro e w' ⟨vr, rfl, hRr, hbr⟩; obtain ⟨Ar, cr, rfl, hcr, hCr⟩ := Kd.R_reads hRr; have Hr := Aside0.mk hCr; clear hRr hCr; replace Ho := Aside0.mk (by first | exact Kd.C_below Ho.out hbr | exact Kd.C_below (Kd.C_drewN Ho.out _) hbr); replace Hp := Aside0.mk (by first | exact Kd.C_below Hp.out hbr | exact Kd.C_below (Kd.C_drewN Hp.out _) hbr); replace Hq := Aside0.mk (by first | exact Kd.C_below Hq.out hbr | exact Kd.C_below (Kd.C_drewN Hq.out _) hbr); have HBn := Aside0.mk (below_step (by repeat (first | (with_reducible first | exact HB.out | apply below_alloc | apply pw_below_drewN | apply below_drew1) | exact HB.out)) hbr); clear HB hbr; have HB := HBn; clear HBn) | (go_at_call 27; (with_reducible refine at_args #[.slice Ao _ co] ?_); (with_reducible refine (WR.out _ _ _ (by (with_reducible repeat (first | apply Kd.C_alloc | apply Kd.C_drewN | apply Kd.C_drew)); exact Ho.out) hco).mono ?_); rintro e w' ⟨vs, rfl, hRs, hbs⟩; obtain ⟨As, cs, rfl, hcs, hCs⟩ := Kd.R_reads hRs; have Hs := Aside0.mk hCs; clear hRs hCs; replace Ho := Aside0.mk (by first | exact Kd.C_below Ho.out hbs | exact Kd.C_below (Kd.C_drewN Ho.out _) hbs); replace Hp := Aside0.mk (by first | exact Kd.C_below Hp.out hbs | exact Kd.C_below (Kd.C_drewN Hp.out _) hbs); replace Hq := Aside0.mk (by first | exact Kd.C_below Hq.out hbs | exact Kd.C_below (Kd.C_drewN Hq.out _) hbs); replace Hr := Aside0.mk (by first | exact Kd.C_below Hr.out hbs | exact Kd.C_below (Kd.C_drewN Hr.out _) hbs); have HBn := Aside0.mk (below_step (by repeat (first | (with_reducible first | exact HB.out | apply below_alloc | apply pw_below_drewN | apply below_drew1) | exact HB.out)) hbs); clear HB hbs; have HB := HBn; clear HBn) | (go_at_call 25; (with_reducible refine at_args #[.slice Ar _ cr, .slice As _ cs] ?_); (with_reducible refine (WordsEq_c Ar cr As cs (wordsL m0) _ _ rfl rfl _ (by (with_reducible repeat (first | apply Kd.C_alloc | apply Kd.C_drewN | apply Kd.C_drew)); exact Hr.out) hcr (by (with_reducible repeat (first | apply Kd.C_alloc | apply Kd.C_drewN | apply Kd.C_drew)); exact Hs.out) hcs LW.out).mono ?_); rintro e w' ⟨rfl, ⟨nd, rfl⟩⟩) | (go_at_call 22; (with_reducible refine at_args #[.slice A0 _ c0, .slice Ao _ co] ?_); (with_reducible refine (Same_c A0 c0 Ao co m0 _ _ rfl rfl _ (Kd.C_below hC0.out (by repeat (first | (with_reducible first | exact HB.out | apply below_alloc | apply pw_below_drewN | apply below_drew1) | exact HB.out))) hmc0 (by (with_reducible repeat (first | apply Kd.C_alloc | apply Kd.C_drewN | apply Kd.C_drew)); exact Ho.out) hco (by omega)).mono ?_); rintro e w' ⟨rfl, ⟨nd, rfl⟩⟩) | (go_at_call 16; (with_reducible refine at_args #[] ?_); (with_reducible refine (works_c _).mono ?_); rintro e w' ⟨rfl, hbw⟩; have HBn := Aside0.mk (below_step (by repeat (first | (with_reducible first | exact HB.out | apply below_alloc | apply pw_below_drewN | apply below_drew1) | exact HB.out)) hbw); clear HB hbw; have HB := HBn; clear HBn))
      go_ret
      exact ⟨rfl, by repeat (first | (with_reducible first | exact HB.out | apply below_alloc | apply pw_below_drewN | apply below_drew1) | exact HB.out)⟩
theorem words_law (a0 : Option Addr) (len0 cap0 : Nat) (z0 : List Int) (a1 : Int) (a2 : Option Addr) (len2 cap2 : Nat) (z2 : List S46) (w : World)
    (w0 : (a0 = none ∧ len0 = 0 ∧ cap0 = 0 ∧ z0 = []) ∨ ∃ x, a0 = some x ∧ len0 ≤ cap0 ∧ cap0 ≤ maxLen ∧ z0.length = cap0 ∧ (∀ i, i < z0.length → w.cell? (x.add i) = some (.int .u16 (z0.getD i 0))) ∧ ∀ n ∈ z0, (Lit.int .u16 n).wf = true) (y0 : len0 * 2 ≤ 140737488351232)
    (w1 : (Lit.int .i64 a1).wf = true) (e2 : z2.length = len2) (c2 : len2 ≤ cap2) (w2 : Kd.C k46 w a2 len2 z2) (b2 : ∀ y ∈ z2, (Lit.int .i64 y.f0).wf = true ∧ (Lit.int .u16 y.f1).wf = true) (y2 : len2 * 16 ≤ 140737488351232) :
    Calls Try.prog 6 #[.slice a0 len0 cap0, .int .i64 a1, .slice a2 len2 cap2] w fun e w' => e = .returned (.bool true) ∧ Below w.heap.size w w' := by
  obtain ⟨l0, rfl, hr0, hm0, hw0, hc0⟩ := ReadsInt.ofRowC w0
  subst e2
  exact words_calls _ _ l0 a1 _ _ z2 w (Kd.C_of_reads (d := (0 : Int)) (h1 := fun _ => rfl) hr0) hc0 (wf_rng hw0) w2 c2 (fun y hy => by obtain ⟨n, hn, h⟩ := wf16 (b2 y hy).2; omega)
end Go.Proofs.Ytllmmgjmkgiodaa.Mem
