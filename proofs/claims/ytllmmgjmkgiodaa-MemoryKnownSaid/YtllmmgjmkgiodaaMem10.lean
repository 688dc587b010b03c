/- The law MemoryKeeps: each address has the word last written; an inverted bit is reported until it is written again; for every list of words and cells and place of a bit. -/
import Derived.Test.YtllmmgjmkgiodaaMem8
import Derived.Test.YtllmmgjmkgiodaaMem9
namespace Go.Proofs.Ytllmmgjmkgiodaa.Mem
open Go.RowKit Go.Proofs.Ytllmmgjmkgiodaa.PAll Go.Proofs.YtllmmgjmkgiodaaW.PrintWords Go.Proofs.YtllmmgjmkgiodaaW.PrintLast Go.Proofs.YtllmmgjmkgiodaaW.PrintMore Go.Proofs.Ytllmmgjmkgiodaa.Plain Go.Proofs.Ytllmmgjmkgiodaa.Par Go.Proofs.Ytllmmgjmkgiodaa.Lit
set_option linter.unusedVariables false
set_option linter.unusedSimpArgs false
theorem cell_alloc_keep {w : World} {o : Obj} {a : Addr} {v : Value} (h : w.cell? a = some v) : (w.alloc o).cell? a = some v :=
  (((Below.refl w.heap.size w).alloc (Nat.le_refl _) o).cell (World.block_lt_of_cell? w _ h)).trans h
/-- The address that the law makes of a whole number. -/
def ix (n : Nat) (a : Int) : Int := IntKind.u64.wrap a % (n : Int)
theorem u64_range (a : Int) : 0 ≤ IntKind.u64.wrap a ∧ IntKind.u64.wrap a < 18446744073709551616 := by
  unfold IntKind.wrap; simp [IntKind.signed, IntKind.bits]; omega
theorem ix_range (n : Nat) (hn : 0 < n) (a : Int) : 0 ≤ ix n a ∧ ix n a < (n : Int) := by
  unfold ix; exact ⟨Int.emod_nonneg _ (by omega), Int.emod_lt_of_pos _ (by omega)⟩
def cellsK (n : Nat) (l : List S46) : List S46 := l.map fun x => ⟨ix n x.f0, x.f1⟩
theorem cellsK_len (n : Nat) (l : List S46) : (cellsK n l).length = l.length := by unfold cellsK; rw [List.length_map]
theorem cellsK_rd (n : Nat) (l : List S46) (i : Int) (h0 : 0 ≤ i) (h : i < (l.length : Int)) : rd_T46 (cellsK n l) i = ⟨ix n (rd_T46 l i).f0, (rd_T46 l i).f1⟩ := by
  have hk : i.toNat < l.length := by omega
  unfold rd_T46 cellsK
  rw [List.getD_eq_getElem?_getD, List.getD_eq_getElem?_getD, List.getElem?_map, List.getElem?_eq_getElem hk]; rfl
theorem cellsK_next (n : Nat) (l : List S46) (i : Int) (h0 : 0 ≤ i) (h : i < (l.length : Int)) : cellsK n (l.take (i + 1).toNat) = cellsK n (l.take i.toNat) ++ [⟨ix n (rd_T46 l i).f0, (rd_T46 l i).f1⟩] := by
  rw [takeT l i h0 h]; unfold cellsK; rw [List.map_append]; rfl
theorem inB_cells (n : Nat) (hn : 0 < n) (l : List S46) : inB n (cellsK n l) = true := by
  unfold inB cellsK
  rw [List.all_eq_true]
  intro x hx
  obtain ⟨y, hy, rfl⟩ := List.mem_map.1 hx
  exact decide_eq_true (ix_range n hn _)
theorem cellsK_rnc (n : Nat) (l : List S46) (h : RNC l) : RNC (cellsK n l) := by
  intro i h0 h1
  rw [cellsK_len] at h1
  rw [cellsK_rd n l i h0 h1]; exact h i h0 h1
theorem rnc_mem {l : List S46} (h : RNC l) : ∀ x ∈ l, 0 ≤ x.f1 ∧ x.f1 < 65536 := by
  intro x hx
  obtain ⟨k, hk, rfl⟩ := List.getElem_of_mem hx
  have := h (k : Int) (by omega) (by omega)
  have e : rd_T46 l (k : Int) = l[k] := by
    unfold rd_T46; rw [Int.toNat_natCast, List.getD_eq_getElem?_getD, List.getElem?_eq_getElem hk]; rfl
  rwa [e] at this
theorem wf_rnc {l : List S46} (h : ∀ y ∈ l, 0 ≤ y.f1 ∧ y.f1 < 65536) : RNC l := by have := rnc_take h l.length; rwa [List.take_length] at this
set_option maxRecDepth 100000 in
set_option maxHeartbeats 4000000 in
theorem keeps_calls (A0 : Option Addr) (c0 : Nat) (l0 : List Int) (A1 : Option Addr) (c1 : Nat) (l1 : List S46) (y : Int) (y0 : 0 ≤ y) (y1 : y < 65536) (w : World) (hr0 : Kd.C (Kd.int .u16) w A0 l0.length l0) (hc0 : l0.length ≤ c0) (hb0 : ∀ x ∈ l0, 0 ≤ x ∧ x < 65536)
    (hr1 : Kd.C k46 w A1 l1.length l1) (hc1 : l1.length ≤ c1) (hb1 : ∀ y ∈ l1, 0 ≤ y.f1 ∧ y.f1 < 65536) :
    Calls Try.prog 7 #[.slice A0 l0.length c0, .slice A1 l1.length c1, .int .u16 y] w fun e w' => e = .returned (.bool true) ∧ Below w.heap.size w w' := by
  have HB := Aside0.mk (Below.refl w.heap.size w)
  have infoW : (Try.prog.info? 40).map (fun i => (i.zero, i.size, i.bytes)) = some (some (.int .u16 0), 1, 2) := by kernel_rfl
  obtain ⟨i3, hi3⟩ := info_some infoW
  obtain ⟨i4, hi4⟩ := info_some infoCell
  obtain ⟨j0, m0, hj0, a00, a01, hm0, hmc0, hq0, hcut0, hC0⟩ := cut_any (Kd.int .u16) 50 40 Try.underlying50 hi3 A0 c0 l0 hc0 60 (by decide) w hr0
  obtain ⟨j1, m1, hj1, a10, a11, hm1, hmc1, hq1, hcut1, hC1⟩ := cut_any k46 39 46 Try.underlying39 hi4 A1 c1 l1 hc1 60 (by decide) w hr1
  have hbm0 : RNG m0 := by rw [hq0]; exact rng_take hb0 _
  have hbm1 : RNC m1 := by rw [hq1]; exact rnc_take hb1 _
  clear hr0 hr1 hb0 hb1 hi3 hi4 hq0 hq1
  replace hC0 := Aside0.mk hC0
  replace hC1 := Aside0.mk hC1
  have a0 := eq_true a00
  have a1 := eq_true a01
  have a2 := eq_true a10
  have a3 := eq_true a11
  by_cases hz : m0.length = 0
  · have b0 : ((m0.length : Int) == 0) = true := by rw [beq_iff_eq]; omega
    go_enter Try.func7, Try.ntmps7
    go_wp2
    go_quiet (fail)
    clear hcut0 hcut1 a0 a1 a2 a3 a00 a01 a10 a11 hj0 hj1
    go_wp2_with (go_at_call 16; (with_reducible refine at_args #[] ?_); (with_reducible refine (works_c _).mono ?_); rintro e w' ⟨rfl, hbw⟩; have HBn := Aside0.mk (below_step (by repeat (first | (with_reducible first | exact HB.out | apply below_alloc | apply pw_below_drewN | apply below_drew1) | exact HB.out)) hbw); clear HB hbw; have HB := HBn; clear HBn)
    go_ret
    exact ⟨rfl, by repeat (first | (with_reducible first | exact HB.out | apply below_alloc | apply pw_below_drewN | apply below_drew1) | exact HB.out)⟩
  obtain ⟨n, hn⟩ : ∃ n, m0.length = n := ⟨_, rfl⟩
  rw [hn] at hz
  have hp : 0 < n := by omega
  have b0 : ((n : Int) == 0) = false := by rw [beq_eq_false_iff_ne]; omega
  have b1 : ((n : Int) != (n : Int)) = false := bne_self_eq_false _
  have t1 : Int.tdiv y 16 = y / 16 := Int.tdiv_eq_ediv_of_nonneg y0
  have t2 : Int.tmod (y / 16) (n : Int) = y / 16 % (n : Int) := Int.tmod_eq_emod_of_nonneg (by omega)
  have q0 : 0 ≤ y / 16 % (n : Int) := Int.emod_nonneg _ (by omega)
  have q1 : y / 16 % (n : Int) < (n : Int) := Int.emod_lt_of_pos _ (by omega)
  obtain ⟨q, hq⟩ : ∃ q, y / 16 % (n : Int) = q := ⟨_, rfl⟩
  rw [hq] at t2 q0 q1
  have t3 : Int.tmod y 16 = y % 16 := Int.tmod_eq_emod_of_nonneg y0
  have z0 : 0 ≤ y % 16 := by omega
  have z1 : y % 16 ≤ 15 := by omega
  have AL := Lib.hid fun w h0 => All_c A0 c0 m0 n hn w h0 (by omega) hbm0
  have FL := Flip_c (rd (m0.map putI) q) (y % 16) (RNG_put m0 q q0 (by rw [List.length_map]; omega)).1 (RNG_put m0 q q0 (by rw [List.length_map]; omega)).2
  rw [fe_ok _ z0 z1] at FL
  replace FL := Lib.hid FL
  have MR := Lib.hid (flat_rng m0 q (y % 16) q0 (by omega))
  have ML : (flat m0 q (y % 16)).length = n := by rw [flat_len, hn]
  have MG := Lib.hid (flat_good m0 hbm0 q (y % 16) q0 (by omega) z0 z1)
  have IB := inB_cells n hp m1
  have AP := Lib.hid fun A c A' c' w h0 h1 => Apply_c A c (flat m0 q (y % 16)) A' c' (cellsK n m1) n m1.length ML (cellsK_len n m1) w h0 h1 (by omega) (by omega) (cellsK_rnc n m1 hbm1)
  have hMf : (flat m0 q (y % 16)) = (m0.map putI).set q.toNat (flI (rd (m0.map putI) q) (y % 16)) := rfl
  generalize flat m0 q (y % 16) = M at MR ML MG AP hMf
  have e1 : apE n (cellsK n m1) = 0 := by unfold apE; rw [IB]; rfl
  have e2 : apL M (cellsK n m1) = appL M (cellsK n m1) := by unfold apL; rw [ML, IB]; rfl
  rw [e1, e2] at AP
  have NR := Lib.hid (RNG_app (cellsK n m1) M MR.out (by rw [ML]; exact IB))
  have NL : (appL M (cellsK n m1)).length = n := by rw [appL_length, ML]
  have NG := Lib.hid fun i (i0 : 0 ≤ i) (i1 : i < (n : Int)) => read_good i0 (by rw [NL]; exact i1) (good_app i i0 (cellsK n m1) M _ (by rw [ML]; exact i1) (fun x hx => (rnc_mem (cellsK_rnc n m1 hbm1) x hx).1) (by rw [ML]; exact IB) (MG.out i i0 (by omega)))
  have MQ := Lib.hid ((read_good q0 (by rw [ML]; exact q1) (MG.out q q0 (by omega))).2 (by simp))
  generalize appL M (cellsK n m1) = NN at AP NR NL NG
  replace IB := Lib.hid IB
  replace hbm1 := Lib.hid hbm1
  replace hbm0 := Lib.hid hbm0
  replace ML := Lib.hid ML
  replace NL := Lib.hid NL
  replace hMf := Lib.hid hMf
  clear e1 e2
  rw [hn] at hC0 hmc0 hm0 hcut0
  replace hn := Lib.hid hn
  have q2 := eq_true q0
  have q3 := eq_true q1
  go_enter Try.func7, Try.ntmps7
  go_wp2
  go_quiet (fail)
  clear hcut0 hcut1 a0 a1 a2 a3 a00 a01 a10 a11 hj0 hj1
  go_wp2_with (first | (go_at_call 28; (with_reducible refine at_args #[.slice A0 _ c0] ?_); (with_reducible refine (AL.out _ (Kd.C_below hC0.out (by repeat (first | (with_reducible first | exact HB.out | apply below_alloc | apply pw_below_drewN | apply below_drew1) | exact HB.out)))).mono ?_); rintro e w' ⟨v5, rfl, hR, hb⟩; obtain ⟨g5, k5, e5, hge5, hlt5, cs5, hb5⟩ := Kd.R_form hR (by rw [List.length_map, hn.out]; exact hp); rw [List.length_map, hn.out] at e5; subst e5; have hx5 : w'.cell? ⟨g5, q.toNat, none⟩ = some (.int .u16 (rd (m0.map putI) q)) := (Kd.R_celln (0 : Int) hR q q0 q1).1; have hf5 := (Kd.R_celln (0 : Int) hR q q0 q1).2; have R5 := Aside0.mk (Kd.R_lower (base' := w.heap.size) hR (below_size (by repeat (first | (with_reducible first | exact HB.out | apply below_alloc | apply pw_below_drewN | apply below_drew1) | exact HB.out)))); replace hge5 := Lib.hid (Nat.le_trans (below_size (by repeat (first | (with_reducible first | exact HB.out | apply below_alloc | apply pw_below_drewN | apply below_drew1) | exact HB.out))) hge5); clear hR hlt5 hb5; have HBn := Aside0.mk (below_step (by repeat (first | (with_reducible first | exact HB.out | apply below_alloc | apply pw_below_drewN | apply below_drew1) | exact HB.out)) hb); clear HB hb; have HB := HBn; clear HBn) | (go_at_call 29; (with_reducible refine at_args #[.int .u16 _, .int .i64 _] ?_); (with_reducible refine (FL.out _).mono ?_); rintro e w' ⟨rfl, ⟨nd, rfl⟩⟩))
  have n5 : Aside0 (Kd.R (Kd.int .u16) 54 ((w'.drewN nd).setCell ⟨g5, q.toNat, none⟩ (.int .u16 (flI (rd (m0.map putI) q) (y % 16)))) w.heap.size (fun _ => True) (.slice (some ⟨g5, 0, none⟩) n k5) M) := ⟨by rw [hMf.out]; exact Kd.R_putn (enc := Value.int .u16) (Kd.R_drewN R5.out nd) q _⟩
  have nB : Aside0 (Below w.heap.size w ((w'.drewN nd).setCell ⟨g5, q.toNat, none⟩ (.int .u16 (flI (rd (m0.map putI) q) (y % 16))))) := ⟨below_set (pw_below_drewN HB.out _) hge5.out⟩
  clear R5 HB AL FL hx5 hf5 q2 q3 t1 t2 t3
  go_loopg [11, 12] m1.length (fun g v11 v12 w' => ∃ i : Int, v12 = .int .i64 i ∧ 0 ≤ i ∧ Aside0 (i + g = m1.length) ∧ Aside0 (Kd.R k46 46 w' w.heap.size (fun _ => True) v11 (cellsK n (m1.take i.toNat))) ∧ Aside0 (Kd.R (Kd.int .u16) 54 w' w.heap.size (fun _ => True) (.slice (some ⟨g5, 0, none⟩) n k5) M) ∧ Aside0 (Below w.heap.size w w'))
  case atStart => exact ⟨0, rfl, by decide, ⟨by omega⟩, ⟨Kd.R_nil _ _ _ _ _⟩, n5, nB⟩
  case round =>
    clear n5 nB
    obtain ⟨i, rfl, h0, hg, R11, R5, HB⟩ := hrel
    by_cases hlt : i < (m1.length : Int)
    · obtain ⟨g, rfl⟩ : ∃ g, gk = g + 1 := ⟨gk - 1, by have := hg.out; omega⟩
      have b2 : decide (i < (m1.length : Int)) = true := decide_eq_true hlt
      obtain ⟨ad, eA, hx0, hx1⟩ := at_T46 (Kd.C_below hC1.out HB.out) i h0 hlt
      cases eA
      have hlt' := eq_true hlt
      have LM : Aside0 ((cellsK n (m1.take i.toNat)).length < 61) := ⟨by rw [cellsK_len, List.length_take]; omega⟩
      have NX := Lib.hid (cellsK_next n m1 i h0 hlt)
      have u0 : IntKind.u64.wrap (n : Int) = (n : Int) := by unfold IntKind.wrap; simp [IntKind.signed, IntKind.bits]; omega
      have u1 : Int.tmod (IntKind.u64.wrap (rd_T46 m1 i).f0) (n : Int) = ix n (rd_T46 m1 i).f0 := Int.tmod_eq_emod_of_nonneg (u64_range _).1
      have u2 := ix_range n hp (rd_T46 m1 i).f0
      obtain ⟨q_, hq_⟩ : ∃ q_, ix n (rd_T46 m1 i).f0 = q_ := ⟨_, rfl⟩
      rw [hq_] at u1 u2 NX
      have u3 : wrap64 q_ = q_ := w64 (by omega) (by omega)
      clear u2 hq_
      go_wp2
      refine start_ (n := 21) (S := fun w' => w'.cell? (ad.add (i.toNat * 2)) = some (.int .i64 (rd_T46 m1 i).f0) ∧ w'.cell? ⟨(ad.add (i.toNat * 2)).block, (ad.add (i.toNat * 2)).off + 1, none⟩ = some (.int .u16 (rd_T46 m1 i).f1)) (ds := [19]) #[false, false, false, false, false, false, false, false, false, false, false, false, false, false, false, false, false, false, false, false, false] (by kernel_rfl) rfl rfl ⟨hx0, hx1⟩ (fun hHeld => ?_)
      replace R11 := Aside0.mk (Kd.R_drew R11.out)
      replace R5 := Aside0.mk (Kd.R_drew R5.out)
      replace HB : Aside0 (Below w.heap.size w wr.drew) := ⟨by repeat (first | (with_reducible first | exact HB.out | apply below_alloc | apply pw_below_drewN | apply below_drew1) | exact HB.out)⟩
      change wr.drew.cell? _ = _ at hx0 hx1
      generalize wr.drew = wd at R11 R5 HB hx0 hx1 hHeld ⊢
      refine pure_ (i := 0) (N := some 69) (v := ?_) (a' := ?_) #[true, false, false, false, false, false, false, false, false, false, false, false, false, false, false, false, false, false, false, false, false] rfl rfl (by kernel_rfl) (fun _ _ _ h => h) (Or.inl ⟨by rfl, ?_⟩) ?_ ?_
      rotate_left
      · intro w'
        go_simp
        with_reducible rfl
      rotate_left
      · simp only [Act.put, List.setIfInBounds_toArray, List.set_cons_zero, List.set_cons_succ, i64_w, i32_w]
        rfl
      refine pure_ (i := 1) (N := some 70) (v := ?_) (a' := ?_) #[true, true, false, false, false, false, false, false, false, false, false, false, false, false, false, false, false, false, false, false, false] rfl rfl (by kernel_rfl) (fun _ _ _ h => h) (Or.inl ⟨by rfl, ?_⟩) ?_ ?_
      rotate_left
      · intro w'
        go_simp
        with_reducible rfl
      rotate_left
      · simp only [Act.put, List.setIfInBounds_toArray, List.set_cons_zero, List.set_cons_succ, i64_w, i32_w]
        rfl
      refine pure_ (i := 2) (N := some 71) (v := ?_) (a' := ?_) #[true, true, true, false, false, false, false, false, false, false, false, false, false, false, false, false, false, false, false, false, false] rfl rfl (by kernel_rfl) (fun _ _ _ h => h) (Or.inl ⟨by rfl, ?_⟩) ?_ ?_
      rotate_left
      · intro w'
        go_simp
        with_reducible rfl
      rotate_left
      · simp only [Act.put, List.setIfInBounds_toArray, List.set_cons_zero, List.set_cons_succ, i64_w, i32_w]
        rfl
      refine pure_ (i := 3) (N := some 72) (v := ?_) (a' := ?_) #[true, true, true, true, false, false, false, false, false, false, false, false, false, false, false, false, false, false, false, false, false] rfl rfl (by kernel_rfl) (fun _ _ _ h => h) (Or.inl ⟨by rfl, ?_⟩) ?_ ?_
      rotate_left
      · intro w'
        go_simp
        with_reducible rfl
      rotate_left
      · simp only [Act.put, List.setIfInBounds_toArray, List.set_cons_zero, List.set_cons_succ, i64_w, i32_w]
        rfl
      refine pure_ (i := 4) (N := some 73) (v := ?_) (a' := ?_) #[true, true, true, true, true, false, false, false, false, false, false, false, false, false, false, false, false, false, false, false, false] rfl rfl (by kernel_rfl) (fun _ _ _ h => h) (Or.inl ⟨by rfl, ?_⟩) ?_ ?_
      rotate_left
      · intro w'
        go_simp
        with_reducible rfl
      rotate_left
      · simp only [Act.put, List.setIfInBounds_toArray, List.set_cons_zero, List.set_cons_succ, i64_w, i32_w]
        rfl
      refine pure_ (i := 7) (N := some 76) (v := ?_) (a' := ?_) #[true, true, true, true, true, false, false, true, false, false, false, false, false, false, false, false, false, false, false, false, false] rfl rfl (by kernel_rfl) (fun _ _ _ h => h) (Or.inl ⟨by rfl, ?_⟩) ?_ ?_
      rotate_left
      · intro w'
        go_simp
        with_reducible rfl
      rotate_left
      · simp only [Act.put, List.setIfInBounds_toArray, List.set_cons_zero, List.set_cons_succ, i64_w, i32_w]
        rfl
      refine pure_ (i := 8) (N := some 77) (v := ?_) (a' := ?_) #[true, true, true, true, true, false, false, true, true, false, false, false, false, false, false, false, false, false, false, false, false] rfl rfl (by kernel_rfl) (fun _ _ _ h => h) (Or.inl ⟨by rfl, ?_⟩) ?_ ?_
      rotate_left
      · intro w'
        go_simp
        with_reducible rfl
      rotate_left
      · simp only [Act.put, List.setIfInBounds_toArray, List.set_cons_zero, List.set_cons_succ, i64_w, i32_w]
        rfl
      refine pure_ (i := 9) (N := some 78) (v := ?_) (a' := ?_) #[true, true, true, true, true, false, false, true, true, true, false, false, false, false, false, false, false, false, false, false, false] rfl rfl (by kernel_rfl) (fun _ _ _ h => h) (Or.inl ⟨by rfl, ?_⟩) ?_ ?_
      rotate_left
      · intro w'
        go_simp
        with_reducible rfl
      rotate_left
      · simp only [Act.put, List.setIfInBounds_toArray, List.set_cons_zero, List.set_cons_succ, i64_w, i32_w]
        rfl
      refine pure_ (i := 12) (N := some 81) (v := ?_) (a' := ?_) #[true, true, true, true, true, false, false, true, true, true, false, false, true, false, false, false, false, false, false, false, false] rfl rfl (by kernel_rfl) (fun _ _ _ h => h) (Or.inl ⟨by rfl, ?_⟩) ?_ ?_
      rotate_left
      · intro w'
        go_simp
        with_reducible rfl
      rotate_left
      · simp only [Act.put, List.setIfInBounds_toArray, List.set_cons_zero, List.set_cons_succ, i64_w, i32_w]
        rfl
      refine pure_ (i := 13) (N := some 82) (v := ?_) (a' := ?_) #[true, true, true, true, true, false, false, true, true, true, false, false, true, true, false, false, false, false, false, false, false] rfl rfl (by kernel_rfl) (fun _ _ _ h => h) (Or.inl ⟨by rfl, ?_⟩) ?_ ?_
      rotate_left
      · intro w'
        go_simp
        with_reducible rfl
      rotate_left
      · simp only [Act.put, List.setIfInBounds_toArray, List.set_cons_zero, List.set_cons_succ, i64_w, i32_w]
        rfl
      refine pure_ (i := 14) (N := some 83) (v := ?_) (a' := ?_) #[true, true, true, true, true, false, false, true, true, true, false, false, true, true, true, false, false, false, false, false, false] rfl rfl (by kernel_rfl) (fun _ _ _ h => h) (Or.inl ⟨by rfl, ?_⟩) ?_ ?_
      rotate_left
      · intro w'
        go_simp
        with_reducible rfl
      rotate_left
      · simp only [Act.put, List.setIfInBounds_toArray, List.set_cons_zero, List.set_cons_succ, i64_w, i32_w]
        rfl
      refine pure_ (i := 15) (N := some 84) (v := ?_) (a' := ?_) #[true, true, true, true, true, false, false, true, true, true, false, false, true, true, true, true, false, false, false, false, false] rfl rfl (by kernel_rfl) (fun _ _ _ h => h) (Or.inl ⟨by rfl, ?_⟩) ?_ ?_
      rotate_left
      · intro w'
        go_simp
        with_reducible rfl
      rotate_left
      · simp only [Act.put, List.setIfInBounds_toArray, List.set_cons_zero, List.set_cons_succ, i64_w, i32_w]
        rfl
      refine take_ (i := 5) (N := some 74) (v := ?_) (a' := ?_) #[true, true, true, true, true, true, false, true, true, true, false, false, true, true, true, true, false, false, false, false, false] rfl rfl (by kernel_rfl) (fun _ _ _ h => h) (Or.inl ⟨by rfl, ?_⟩) hHeld ?_ ?_
      rotate_left
      · rintro w' ⟨s0, s1⟩
        go_simp
        with_reducible rfl
      rotate_left
      · simp only [Act.put, List.setIfInBounds_toArray, List.set_cons_zero, List.set_cons_succ, i64_w, i32_w]
        rfl
      refine pure_ (i := 6) (N := some 75) (v := ?_) (a' := ?_) #[true, true, true, true, true, true, true, true, true, true, false, false, true, true, true, true, false, false, false, false, false] rfl rfl (by kernel_rfl) (fun _ _ _ h => h) (Or.inl ⟨by rfl, ?_⟩) ?_ ?_
      rotate_left
      · intro w'
        go_simp
        with_reducible rfl
      rotate_left
      · simp only [Act.put, List.setIfInBounds_toArray, List.set_cons_zero, List.set_cons_succ, i64_w, i32_w]
        rfl
      refine pure_ (i := 10) (N := some 79) (v := ?_) (a' := ?_) #[true, true, true, true, true, true, true, true, true, true, true, false, true, true, true, true, false, false, false, false, false] rfl rfl (by kernel_rfl) (fun _ _ _ h => h) (Or.inl ⟨by rfl, ?_⟩) ?_ ?_
      rotate_left
      · intro w'
        go_simp
        with_reducible rfl
      rotate_left
      · simp only [Act.put, List.setIfInBounds_toArray, List.set_cons_zero, List.set_cons_succ, i64_w, i32_w]
        rfl
      refine pure_ (i := 11) (N := some 80) (v := ?_) (a' := ?_) #[true, true, true, true, true, true, true, true, true, true, true, true, true, true, true, true, false, false, false, false, false] rfl rfl (by kernel_rfl) (fun _ _ _ h => h) (Or.inl ⟨by rfl, ?_⟩) ?_ ?_
      rotate_left
      · intro w'
        go_simp
        with_reducible rfl
      rotate_left
      · simp only [Act.put, List.setIfInBounds_toArray, List.set_cons_zero, List.set_cons_succ, i64_w, i32_w]
        rfl
      refine take_ (i := 16) (N := some 85) (v := ?_) (a' := ?_) #[true, true, true, true, true, true, true, true, true, true, true, true, true, true, true, true, true, false, false, false, false] rfl rfl (by kernel_rfl) (fun _ _ _ h => h) (Or.inl ⟨by rfl, ?_⟩) hHeld ?_ ?_
      rotate_left
      · rintro w' ⟨s0, s1⟩
        go_simp
        with_reducible rfl
      rotate_left
      · simp only [Act.put, List.setIfInBounds_toArray, List.set_cons_zero, List.set_cons_succ, i64_w, i32_w]
        rfl
      refine pure_ (i := 17) (N := some 86) (v := ?_) (a' := ?_) #[true, true, true, true, true, true, true, true, true, true, true, true, true, true, true, true, true, true, false, false, false] rfl rfl (by kernel_rfl) (fun _ _ _ h => h) (Or.inl ⟨by rfl, ?_⟩) ?_ ?_
      rotate_left
      · intro w'
        go_simp
        with_reducible rfl
      rotate_left
      · simp only [Act.put, List.setIfInBounds_toArray, List.set_cons_zero, List.set_cons_succ, i64_w, i32_w]
        rfl
      refine one_ (i := 18) (N := some 87) #[true, true, true, true, true, true, true, true, true, true, true, true, true, true, true, true, true, true, true, false, false] rfl rfl (by kernel_rfl) (by decide) (fun K hK => ?_)
      refine value_ (w1 := ?_) (v := ?_) (by rfl) rfl ?_ ?_
      rotate_left 2
      · go_simp
        constructor
        · rfl
        · rfl
      refine hK.out _ _ ⟨(cell_alloc_keep hx0), (cell_alloc_keep hx1)⟩ (fun hHeld => ?_)
      clear hK K
      refine norm_ (a' := ?_) ?_ ?_
      rotate_left
      · show Act.put _ (some 87) _ = _
        simp only [Act.put, List.setIfInBounds_toArray, List.set_cons_zero, List.set_cons_succ, i64_w, i32_w]
        rfl
      refine last_ (i := 19) (N := some 88) #[true, true, true, true, true, true, true, true, true, true, true, true, true, true, true, true, true, true, true, true, false] rfl rfl (by kernel_rfl) (by decide) (fun K hK => ?_)
      refine Kd.R_append_step k46 (w0 := w) w.heap.size ?hw (.tmp 69) (.tmp 87) 39 46 (.agg #[.int .i64 0, .int .u16 0]) 16 ?ho Try.underlying39 infoCell rfl (by decide) (by decide) u11 (cellsK n (m1.take i.toNat)) ⟨q_, (rd_T46 m1 i).f1⟩ [.int .i64 q_, .int .u16 (rd_T46 m1 i).f1] (fun _ => True) (fun _ => False) ?hs ?hx ?aP (fun _ hk => hk.elim) ?aF ?aO ?aB ?aS ?aL ?_
      case hw => rfl
      case ho => rfl
      case hs => rfl
      case hx => rfl
      case aP => exact k46_mkM _ _ _ ⟨q_, (rd_T46 m1 i).f1⟩
      case aF => exact fun _ _ => trivial
      case aO => exact (by (with_reducible repeat (first | apply Kd.R_alloc | apply Kd.R_drewN | apply Kd.R_drew)); exact R11.out)
      case aB => exact (by repeat (first | (with_reducible first | exact HB.out | apply below_alloc | apply pw_below_drewN | apply below_drew1) | exact HB.out))
      case aS => exact (below_size (by repeat (first | (with_reducible first | exact HB.out | apply below_alloc | apply pw_below_drewN | apply below_drew1) | exact HB.out)))
      case aL => have := LM.out; omega
      intro v111 w111 ho hb hg hat
      have n5 := Aside0.mk (Kd.R_over (by (with_reducible repeat (first | apply Kd.R_alloc | apply Kd.R_drewN | apply Kd.R_drew)); exact R5.out) (by (with_reducible repeat (first | apply Kd.R_alloc | apply Kd.R_drewN | apply Kd.R_drew)); exact R11.out) (by decide) hg)
      clear R5 R11 HB hat hg
      have R5 := n5
      have R11 := Aside0.mk ho
      have HB := Aside0.mk hb
      clear n5 ho hb
      refine hK.out _ _ ?_
      clear hK K
      refine norm_ (a' := ?_) ?_ ?_
      rotate_left
      · show Act.put _ (some 88) _ = _
        simp only [Act.put, List.setIfInBounds_toArray, List.set_cons_zero, List.set_cons_succ, i64_w, i32_w]
        rfl
      refine pure_ (i := 20) (N := some 11) (v := ?_) (a' := ?_) #[true, true, true, true, true, true, true, true, true, true, true, true, true, true, true, true, true, true, true, true, true] rfl rfl (by kernel_rfl) (fun _ _ _ h => h) (Or.inl ⟨by rfl, ?_⟩) ?_ ?_
      rotate_left
      · intro w'
        go_simp
        with_reducible rfl
      rotate_left
      · simp only [Act.put, List.setIfInBounds_toArray, List.set_cons_zero, List.set_cons_succ, i64_w, i32_w]
        rfl
      refine done_ (by kernel_rfl) ?_

      go_wp2
      go_roundg g
      case measure => omega
      case rel => exact ⟨i + 1, rfl, by omega, ⟨by have := hg.out; omega⟩, ⟨by rw [NX.out]; exact R11.out⟩, R5, HB⟩
    have hi : i = m1.length := by have := hg.out; omega
    have b2 : decide (i < (m1.length : Int)) = false := decide_eq_false hlt
    subst hi
    rw [Int.toNat_natCast, List.take_length] at R11
    obtain ⟨A11, c11, e11, hc11, H11⟩ := Kd.R_reads R11.out
    rw [cellsK_len] at e11 H11
    subst e11
    replace H11 := Aside0.mk H11
    obtain ⟨-, hk5, H5⟩ := Kd.R_reads' R5.out
    rw [ML.out] at H5
    replace H5 := Aside0.mk H5
    clear R11 R5 hlt hg h0
    go_wp2_with (go_at_call 23; (with_reducible refine at_args #[.slice (some ⟨g5, 0, none⟩) _ k5, .slice A11 _ c11] ?_); (with_reducible refine (AP.out _ _ _ _ _ (by (with_reducible repeat (first | apply Kd.C_alloc | apply Kd.C_drewN | apply Kd.C_drew)); exact H5.out) (by (with_reducible repeat (first | apply Kd.C_alloc | apply Kd.C_drewN | apply Kd.C_drew)); exact H11.out)).mono ?_); rintro e w' ⟨v13, rfl, hR, hb⟩; obtain ⟨A13, c13, e13, hc13, hC13⟩ := Kd.R_reads hR; rw [NL.out] at e13 hc13 hC13; subst e13; have H13 := Aside0.mk hC13; clear hR hC13; replace H5 := Aside0.mk (by first | exact Kd.C_below H5.out hb | exact Kd.C_below (Kd.C_drewN H5.out _) hb); replace H11 := Aside0.mk (by first | exact Kd.C_below H11.out hb | exact Kd.C_below (Kd.C_drewN H11.out _) hb); have HBn := Aside0.mk (below_step (by repeat (first | (with_reducible first | exact HB.out | apply below_alloc | apply pw_below_drewN | apply below_drew1) | exact HB.out)) hb); clear HB hb; have HB := HBn; clear HBn)
    clear AP
    go_loopg [15] n (fun g v15 w' => ∃ i : Int, v15 = .int .i64 i ∧ 0 ≤ i ∧ Aside0 (i + g = n) ∧ Aside0 (Kd.C (Kd.int .u16) w' A13 n NN) ∧ Aside0 (Kd.C k46 w' A11 m1.length (cellsK n m1)) ∧ Aside0 (Kd.C (Kd.int .u16) w' (some ⟨g5, 0, none⟩) n M) ∧ Aside0 (Below w.heap.size w w'))
    case atStart => exact ⟨0, rfl, by decide, ⟨by omega⟩, H13, H11, H5, HB⟩
    case round =>
      clear H13 H11 H5 HB
      obtain ⟨i, rfl, h0, hg, H13, H11, H5, HB⟩ := hrel
      by_cases hlt : i < (n : Int)
      · obtain ⟨g, rfl⟩ : ∃ g, gk = g + 1 := ⟨gk - 1, by have := hg.out; omega⟩
        have b3 : decide (i < (n : Int)) = true := decide_eq_true hlt
        obtain ⟨ad, eA, hx0⟩ := Kd.at_int (Kd.C_below hC0.out HB.out) i h0 hlt
        cases eA
        have hlt' := eq_true hlt
        have t4 : Int.tmod (rd m0 i) 32768 = rd m0 i % 32768 := Int.tmod_eq_emod_of_nonneg (hbm0.out i h0 (by have := hn.out; omega)).1
        go_wp2
        go_loopg [16, 17, 18] m1.length (fun g v16 v17 v18 w' => ∃ (k wv : Int) (fv : Bool), v16 = .int .u16 wv ∧ v17 = .bool fv ∧ v18 = .int .i64 k ∧ 0 ≤ k ∧ Aside0 (k + g = m1.length) ∧ Aside0 (wantS (rd m0 i % 32768, i != q) i ((cellsK n m1).take k.toNat) = (wv, fv)) ∧ Aside0 (Kd.C (Kd.int .u16) w' A13 n NN) ∧ Aside0 (Kd.C k46 w' A11 m1.length (cellsK n m1)) ∧ Aside0 (Kd.C (Kd.int .u16) w' (some ⟨g5, 0, none⟩) n M) ∧ Aside0 (Below w.heap.size w w'))
        case atStart => exact ⟨0, _, _, rfl, rfl, rfl, by decide, ⟨by omega⟩, ⟨rfl⟩, ⟨(by (with_reducible repeat (first | apply Kd.C_alloc | apply Kd.C_drewN | apply Kd.C_drew)); exact H13.out)⟩, ⟨(by (with_reducible repeat (first | apply Kd.C_alloc | apply Kd.C_drewN | apply Kd.C_drew)); exact H11.out)⟩, ⟨(by (with_reducible repeat (first | apply Kd.C_alloc | apply Kd.C_drewN | apply Kd.C_drew)); exact H5.out)⟩, ⟨by repeat (first | (with_reducible first | exact HB.out | apply below_alloc | apply pw_below_drewN | apply below_drew1) | exact HB.out)⟩⟩
        case round =>
          clear H13 H11 H5 HB hx0
          have hg0 := hg
          clear hg
          obtain ⟨k, wv, fv, rfl, rfl, rfl, k0, hg, HW, H13, H11, H5, HB⟩ := hrel
          by_cases hkt : k < (m1.length : Int)
          · obtain ⟨g', rfl⟩ : ∃ g', gk = g' + 1 := ⟨gk - 1, by have := hg.out; omega⟩
            have b4 : decide (k < (m1.length : Int)) = true := decide_eq_true hkt
            obtain ⟨ad2, eA, hy0, hy1⟩ := at_T46 H11.out k k0 hkt
            cases eA
            have hkt' := eq_true hkt
            have WN := wantS_next (rd m0 i % 32768, i != q) i (cellsK n m1) k k0 (by rw [cellsK_len]; exact hkt)
            rw [HW.out] at WN
            have r0 := (cellsK_rnc n m1 hbm1.out k k0 (by rw [cellsK_len]; exact hkt)).1
            have t5 : Int.tmod (rd_T46 (cellsK n m1) k).f1 32768 = (rd_T46 (cellsK n m1) k).f1 % 32768 := Int.tmod_eq_emod_of_nonneg r0
            by_cases hc : (rd_T46 (cellsK n m1) k).f0 = i
            · have b5 : ((rd_T46 (cellsK n m1) k).f0 == i) = true := by rw [beq_iff_eq]; exact hc
              unfold stepW at WN
              rw [if_pos hc] at WN
              replace WN := Lib.hid WN
              clear hc
              go_wp2
              go_roundg g'
              case measure => omega
              case rel => exact ⟨k + 1, _, _, rfl, rfl, rfl, by omega, ⟨by have := hg.out; omega⟩, ⟨WN.out⟩, ⟨(by (with_reducible repeat (first | apply Kd.C_alloc | apply Kd.C_drewN | apply Kd.C_drew)); exact H13.out)⟩, ⟨(by (with_reducible repeat (first | apply Kd.C_alloc | apply Kd.C_drewN | apply Kd.C_drew)); exact H11.out)⟩, ⟨(by (with_reducible repeat (first | apply Kd.C_alloc | apply Kd.C_drewN | apply Kd.C_drew)); exact H5.out)⟩, ⟨by repeat (first | (with_reducible first | exact HB.out | apply below_alloc | apply pw_below_drewN | apply below_drew1) | exact HB.out)⟩⟩
            · have b5 : ((rd_T46 (cellsK n m1) k).f0 == i) = false := by rw [beq_eq_false_iff_ne]; exact hc
              unfold stepW at WN
              rw [if_neg hc] at WN
              replace WN := Lib.hid WN
              clear hc
              go_wp2
              go_roundg g'
              case measure => omega
              case rel => exact ⟨k + 1, _, _, rfl, rfl, rfl, by omega, ⟨by have := hg.out; omega⟩, ⟨WN.out⟩, ⟨(by (with_reducible repeat (first | apply Kd.C_alloc | apply Kd.C_drewN | apply Kd.C_drew)); exact H13.out)⟩, ⟨(by (with_reducible repeat (first | apply Kd.C_alloc | apply Kd.C_drewN | apply Kd.C_drew)); exact H11.out)⟩, ⟨(by (with_reducible repeat (first | apply Kd.C_alloc | apply Kd.C_drewN | apply Kd.C_drew)); exact H5.out)⟩, ⟨by repeat (first | (with_reducible first | exact HB.out | apply below_alloc | apply pw_below_drewN | apply below_drew1) | exact HB.out)⟩⟩
          have b4 : decide (k < (m1.length : Int)) = false := decide_eq_false hkt
          have hk : k = m1.length := by have := hg.out; omega
          subst hk
          have GG := NG.out i h0 hlt
          rw [Int.toNat_natCast, ← cellsK_len n m1, List.take_length] at HW
          rw [HW.out] at GG
          have RD := fun w h0 => Read_c A13 c13 NN n NL.out i w h0 hc13 (by omega) NR.out
          cases fv with
          | true =>
            have G1 := GG.1 rfl
            rw [G1.1, G1.2] at RD
            replace RD := Lib.hid RD
            have b5 : (wv != wv) = false := bne_self_eq_false _
            clear GG G1 HW hkt hg
            go_wp2_with (go_at_call 18; (with_reducible refine at_args #[.slice A13 _ c13, .int .i64 i] ?_); (with_reducible refine (RD.out _ (by (with_reducible repeat (first | apply Kd.C_alloc | apply Kd.C_drewN | apply Kd.C_drew)); exact H13.out)).mono ?_); rintro e w' ⟨rfl, ⟨nd, rfl⟩⟩)
            go_roundg g
            case measure => omega
            case rel => exact ⟨i + 1, rfl, by omega, ⟨by have := hg0.out; omega⟩, ⟨(by (with_reducible repeat (first | apply Kd.C_alloc | apply Kd.C_drewN | apply Kd.C_drew)); exact H13.out)⟩, ⟨(by (with_reducible repeat (first | apply Kd.C_alloc | apply Kd.C_drewN | apply Kd.C_drew)); exact H11.out)⟩, ⟨(by (with_reducible repeat (first | apply Kd.C_alloc | apply Kd.C_drewN | apply Kd.C_drew)); exact H5.out)⟩, ⟨by repeat (first | (with_reducible first | exact HB.out | apply below_alloc | apply pw_below_drewN | apply below_drew1) | exact HB.out)⟩⟩
          | false =>
            have G1 := GG.2 rfl
            rw [G1] at RD
            replace RD := Lib.hid RD
            clear GG G1 HW hkt hg
            go_wp2_with (go_at_call 18; (with_reducible refine at_args #[.slice A13 _ c13, .int .i64 i] ?_); (with_reducible refine (RD.out _ (by (with_reducible repeat (first | apply Kd.C_alloc | apply Kd.C_drewN | apply Kd.C_drew)); exact H13.out)).mono ?_); rintro e w' ⟨rfl, ⟨nd, rfl⟩⟩)
            go_roundg g
            case measure => omega
            case rel => exact ⟨i + 1, rfl, by omega, ⟨by have := hg0.out; omega⟩, ⟨(by (with_reducible repeat (first | apply Kd.C_alloc | apply Kd.C_drewN | apply Kd.C_drew)); exact H13.out)⟩, ⟨(by (with_reducible repeat (first | apply Kd.C_alloc | apply Kd.C_drewN | apply Kd.C_drew)); exact H11.out)⟩, ⟨(by (with_reducible repeat (first | apply Kd.C_alloc | apply Kd.C_drewN | apply Kd.C_drew)); exact H5.out)⟩, ⟨by repeat (first | (with_reducible first | exact HB.out | apply below_alloc | apply pw_below_drewN | apply below_drew1) | exact HB.out)⟩⟩
      have b3 : decide (i < (n : Int)) = false := decide_eq_false hlt
      have RD := fun w h0 => Read_c (some ⟨g5, 0, none⟩) k5 M n ML.out q w h0 hk5 (by omega) MR.out
      rw [MQ.out] at RD
      replace RD := Lib.hid RD
      clear hg hlt
      go_wp2_with (first | (go_at_call 18; (with_reducible refine at_args #[.slice (some ⟨g5, 0, none⟩) _ k5, .int .i64 q] ?_); (with_reducible refine (RD.out _ (by (with_reducible repeat (first | apply Kd.C_alloc | apply Kd.C_drewN | apply Kd.C_drew)); exact H5.out)).mono ?_); rintro e w' ⟨rfl, ⟨nd, rfl⟩⟩) | (go_at_call 16; (with_reducible refine at_args #[] ?_); (with_reducible refine (works_c _).mono ?_); rintro e w' ⟨rfl, hbw⟩; have HBn := Aside0.mk (below_step (by repeat (first | (with_reducible first | exact HB.out | apply below_alloc | apply pw_below_drewN | apply below_drew1) | exact HB.out)) hbw); clear HB hbw; have HB := HBn; clear HBn))
      go_ret
      exact ⟨rfl, by repeat (first | (with_reducible first | exact HB.out | apply below_alloc | apply pw_below_drewN | apply below_drew1) | exact HB.out)⟩
theorem keeps_law (a0 : Option Addr) (len0 cap0 : Nat) (z0 : List Int) (a1 : Option Addr) (len1 cap1 : Nat) (z1 : List S46) (a2 : Int) (w : World)
    (w0 : (a0 = none ∧ len0 = 0 ∧ cap0 = 0 ∧ z0 = []) ∨ ∃ x, a0 = some x ∧ len0 ≤ cap0 ∧ cap0 ≤ maxLen ∧ z0.length = cap0 ∧ (∀ i, i < z0.length → w.cell? (x.add i) = some (.int .u16 (z0.getD i 0))) ∧ ∀ n ∈ z0, (Lit.int .u16 n).wf = true) (y0 : len0 * 2 ≤ 140737488351232)
    (e1 : z1.length = len1) (c1 : len1 ≤ cap1) (w1 : Kd.C k46 w a1 len1 z1) (b1 : ∀ y ∈ z1, (Lit.int .i64 y.f0).wf = true ∧ (Lit.int .u16 y.f1).wf = true) (y1 : len1 * 16 ≤ 140737488351232) (w2 : (Lit.int .u16 a2).wf = true) :
    Calls Try.prog 7 #[.slice a0 len0 cap0, .slice a1 len1 cap1, .int .u16 a2] w fun e w' => e = .returned (.bool true) ∧ Below w.heap.size w w' := by
  obtain ⟨l0, rfl, hr0, hm0, hw0, hc0⟩ := ReadsInt.ofRowC w0
  subst e1
  obtain ⟨x, hx, h⟩ := wf16 w2
  exact keeps_calls _ _ l0 _ _ z1 a2 (by omega) (by omega) w (Kd.C_of_reads (d := (0 : Int)) (h1 := fun _ => rfl) hr0) hc0 (wf_rng hw0) w1 c1 (fun y hy => by obtain ⟨n, hn, h⟩ := wf16 (b1 y hy).2; omega)
end Go.Proofs.Ytllmmgjmkgiodaa.Mem
