/- The law CounterQueues: Add, Next, Serve and Total answer as their references do; for every queue and memory. -/
import Derived.Test.YtebnodldfddbnaaCnt14
import Derived.Shelf.Abstract
import Derived.Shelf.RegionOpen
namespace Go.Proofs.Ytebnodldfddbnaa.Cnt
open Go.RowKit Go.Proofs.Ytebnodldfddbnaa.PAll Go.Proofs.YtebnodldfddbnaaW.PrintWords Go.Proofs.YtebnodldfddbnaaW.PrintLast Go.Proofs.YtebnodldfddbnaaW.PrintMore Go.Proofs.Ytebnodldfddbnaa.Plain Go.Proofs.Ytebnodldfddbnaa.One Go.Proofs.Ytebnodldfddbnaa.Lit
set_option linter.unusedVariables false
set_option linter.unusedSimpArgs false
theorem drawn_below {w W : World} {nd : Nat} (h : W = w.drewN nd) : Below w.heap.size w W := by rw [h]; exact pw_below_drewN (Below.refl _ _) _
theorem eqA46 (d : Nat) (w : World) (x0 y0 : Int) (x1 y1 : Int) :
    (Op.equalIn (d + 2) 46 (.agg #[.int .i64 x0, .int .u16 x1]) (.agg #[.int .i64 y0, .int .u16 y1])).run Try.prog w = .ok (x0 == y0 && (x1 == y1)) w := by
  refine eqA_of Try.underlying46 (by kernel_rfl) ?_
  refine eqf_cons (by rfl) (by go_simp; rfl) (by go_simp; rfl) (by go_simp) ?_
  exact eqf_last (by rfl) (by go_simp; rfl) (by go_simp; rfl) (by go_simp)
def RNG (l : List Int) : Prop := ∀ i : Int, 0 ≤ i → i < (l.length : Int) → 0 ≤ rd l i ∧ rd l i < 65536
theorem RNG_of {l : List Int} (hb : ∀ x ∈ l, 0 ≤ x ∧ x < 65536) : RNG l := fun i h0 h => by
  have hk : i.toNat < l.length := by omega
  have := hb _ (List.getElem_mem hk)
  unfold rd
  rw [List.getD_eq_getElem?_getD, List.getElem?_eq_getElem hk]; exact this
theorem adL_le (l : List S26) (a k : Int) : (adL l a k).length ≤ l.length + 1 := by
  unfold adL; split
  · simp
  · simp
theorem sL_le (l : List S26) (er : List Int) : (sL l er).length ≤ 2 * l.length := by
  unfold sL; split
  · simp only [List.length_append, List.length_take, List.length_drop]; omega
  · simp
set_option maxRecDepth 100000 in
set_option maxHeartbeats 8000000 in
theorem queues_calls (A0 : Option Addr) (c0 : Nat) (l0 : List S26) (at_ kk : Int) (A2 : Option Addr) (c2 : Nat) (l2 : List Int) (w : World) (hr0 : Kd.C k26 w A0 l0.length l0) (hc0 : l0.length ≤ c0) (hr2 : Kd.C (Kd.int .u16) w A2 l2.length l2) (hc2 : l2.length ≤ c2) (hb2 : ∀ x ∈ l2, 0 ≤ x ∧ x < 65536) :
    Calls Try.prog 9 #[.slice A0 l0.length c0, .agg #[.int .i64 at_, .int .u8 kk], .slice A2 l2.length c2] w fun e w' => e = .returned (.bool true) ∧ Below w.heap.size w w' := by
  have HB := Aside0.mk (Below.refl w.heap.size w)
  obtain ⟨i3, hi3⟩ := info_some infoPulse
  obtain ⟨i4, hi4⟩ := info_some infoWord
  obtain ⟨j0, m0, hj0, a00, a01, hm0, hmc0, hq0, hcut0, hC0⟩ := cut_any k26 31 26 Try.underlying31 hi3 A0 c0 l0 hc0 200 (by decide) w hr0
  obtain ⟨j2, m2, hj2, a20, a21, hm2, hmc2, hq2, hcut2, hC2⟩ := cut_any (Kd.int .u16) 44 23 Try.underlying44 hi4 A2 c2 l2 hc2 100 (by decide) w hr2
  have he : RNG m2 := by rw [hq2]; exact RNG_of fun x hx => hb2 x (List.mem_of_mem_take hx)
  clear hr0 hr2 hb2 hi3 hi4 hq0 hq2
  replace hC0 := Aside0.mk hC0
  replace hC2 := Aside0.mk hC2
  have a0 := eq_true a00
  have a1 := eq_true a01
  have a2 := eq_true a20
  have a3 := eq_true a21
  have KA := Lib.hid fun w h => Add_c A0 c0 m0 m0.length rfl at_ kk w h (by omega)
  have KR := Lib.hid fun w A c h hc => rAdd_c A c m0 m0.length rfl at_ kk w h hc
  have NX := Lib.hid fun w h => Next_c A0 c0 m0 m0.length rfl w h hmc0 (by omega)
  have NR := Lib.hid fun w A c h hc => rNext_c A c m0 m0.length rfl w h hc (by omega)
  have TO := Lib.hid fun w h => Total_c A0 c0 m0 m0.length rfl at_ w h (by omega)
  have TR := Lib.hid fun w A c h hc => rTotal_c A c m0 m0.length rfl at_ w h hc (by omega)
  have SV := Lib.hid fun w h h2 => Serve_c A0 c0 m0 A2 c2 m2.length m2 w m0.length rfl rfl h hmc0 (by omega) h2 he
  have SR := Lib.hid fun w A c h hc h2 => rServe_c A c m0 A2 c2 m2.length m2 w m0.length rfl rfl h hc (by omega) h2 hmc2 he
  have La := adL_le m0 at_ kk
  have Ls := sL_le m0 m2
  generalize adL m0 at_ kk = LA at KA KR La
  generalize adE m0.length at_ kk = eA at KA KR
  generalize nxT m0 m0.length = j_ at NX NR
  generalize decide (0 < m0.length) = ok_ at NX NR
  generalize tot at_ m0 = t_ at TO TR
  generalize sL m0 m2 = LS at SV SR Ls
  generalize sA m0 m2 = cA at SV SR
  generalize sW m0 m2 = cW at SV SR
  generalize sS m0 m2 = sg at SV SR
  generalize sE m0 m2 = eS at SV SR
  have n0 : (eA != eA) = false := bne_self_eq_false _
  have n1 : (j_ != j_) = false := bne_self_eq_false _
  have n2 : (ok_ != ok_) = false := bne_self_eq_false _
  have n3 : (t_ != t_) = false := bne_self_eq_false _
  have n4 : (sg == sg) = true := beq_self_eq_true _
  have n5 : (eS == eS) = true := beq_self_eq_true _
  have n6 : (cA == cA) = true := beq_self_eq_true _
  have n7 : (cW == cW) = true := beq_self_eq_true _
  have hE := fun d w => eqA46 d w cA cA cW cW
  have Y0 : Aside0 ((w.alloc (.cells #[.int .i64 at_, .int .u8 kk] 26)).cell? ⟨w.heap.size, 0, none⟩ = some (.int .i64 at_)) := ⟨by rw [World.cell?_alloc_mark]; rfl⟩
  have Y1 : Aside0 ((w.alloc (.cells #[.int .i64 at_, .int .u8 kk] 26)).cell? ⟨w.heap.size, 1, none⟩ = some (.int .u8 kk)) := ⟨by rw [World.cell?_alloc_mark]; rfl⟩
  clear he
  go_enter Try.func9, Try.ntmps9
  go_wp2
  go_quiet (fail)
  clear hcut0 hcut2 a0 a1 a2 a3 a00 a01 a20 a21 hj0 hj2
  go_wp2_with (first | ((with_reducible refine gate_builtin (b := .append) (xs := #[.tmp 32, .tmp 33]) rfl ?_); at_builtin; refine Kd.R_append_rows k26 (w0 := w) w.heap.size rfl (.tmp 32) (.tmp 33) 31 26 (.agg #[(.int .i64 0), (.int .u8 0)]) 16 rfl Try.underlying31 infoPulse rfl (by decide) (by omega) (.slice none 0 0) ([] : List (S26)) m0 _ _ _ (fun _ => True) (fun _ => False) rfl rfl ?aO ?aR (fun _ _ h => h) (fun _ h => h.elim) ?aF ?aB ?aS ?aL ?_; (case aR => exact (Kd.C_below hC0.out (by repeat (first | (with_reducible first | exact HB.out | apply below_alloc | apply pw_below_drewN | apply below_drew1) | exact HB.out)))); (case aB => exact (by repeat (first | (with_reducible first | exact HB.out | apply below_alloc | apply pw_below_drewN | apply below_drew1) | exact HB.out))); (case aF => exact fun _ _ => trivial); (case aO => exact Kd.R_nil _ _ _ _ _); (case aS => exact below_size (by repeat (first | (with_reducible first | exact HB.out | apply below_alloc | apply pw_below_drewN | apply below_drew1) | exact HB.out))); (case aL => simp; omega); intro v7 w7 ho hb hg hat; rw [List.nil_append] at ho; have hbW := pw_below_grown (Below.refl _ _) none (Nat.le_refl _) hg (fun k hk => by cases hk); have z0 := (hbW.cell (World.block_lt_of_cell? _ _ Y0.out)).trans Y0.out; have z1 := (hbW.cell (World.block_lt_of_cell? _ _ Y1.out)).trans Y1.out; obtain ⟨Ao, co, rfl, hco, hCo⟩ := Kd.R_reads ho; have Ho := Aside0.mk hCo; clear ho hCo hbW hat hg HB; have HB := Aside0.mk hb; clear hb) | (go_at_call 18; (with_reducible refine at_args #[.slice A0 m0.length c0, .agg #[.int .i64 at_, .int .u8 kk]] ?_); (with_reducible refine (KA.out _ (Kd.C_below hC0.out (by repeat (first | (with_reducible first | exact HB.out | apply below_alloc | apply pw_below_drewN | apply below_drew1) | exact HB.out)))).mono ?_); rintro e w' ⟨vp, rfl, hRp, hbp⟩; obtain ⟨Ap, cp, rfl, hcp, hCp⟩ := Kd.R_reads hRp; have Hp := Aside0.mk hCp; clear hRp hCp; replace Ho := Aside0.mk (by first | exact Kd.C_below Ho.out hbp | exact Kd.C_below (Kd.C_drewN Ho.out _) hbp | exact Kd.C_below (Kd.C_alloc Ho.out _) hbp); replace z0 := ((hbp).cell (World.block_lt_of_cell? _ _ z0)).trans z0; replace z1 := ((hbp).cell (World.block_lt_of_cell? _ _ z1)).trans z1; have HBn := Aside0.mk (below_step (by repeat (first | (with_reducible first | exact HB.out | apply below_alloc | apply pw_below_drewN | apply below_drew1) | exact HB.out)) hbp); clear HB hbp; have HB := HBn; clear HBn) | (go_at_call 23; (with_reducible refine at_args #[.slice Ao m0.length co, .agg #[.int .i64 at_, .int .u8 kk]] ?_); (with_reducible refine (KR.out _ _ _ (by (with_reducible repeat (first | apply Kd.C_alloc | apply Kd.C_drewN | apply Kd.C_drew)); exact Ho.out) hco).mono ?_); rintro e w' ⟨vq, rfl, hRq, hbq⟩; obtain ⟨Aq, cq, rfl, hcq, hCq⟩ := Kd.R_reads hRq; have Hq := Aside0.mk hCq; clear hRq hCq; replace Ho := Aside0.mk (by first | exact Kd.C_below Ho.out hbq | exact Kd.C_below (Kd.C_drewN Ho.out _) hbq | exact Kd.C_below (Kd.C_alloc Ho.out _) hbq); replace Hp := Aside0.mk (by first | exact Kd.C_below Hp.out hbq | exact Kd.C_below (Kd.C_drewN Hp.out _) hbq | exact Kd.C_below (Kd.C_alloc Hp.out _) hbq); replace z0 := ((hbq).cell (World.block_lt_of_cell? _ _ z0)).trans z0; replace z1 := ((hbq).cell (World.block_lt_of_cell? _ _ z1)).trans z1; have HBn := Aside0.mk (below_step (by repeat (first | (with_reducible first | exact HB.out | apply below_alloc | apply pw_below_drewN | apply below_drew1) | exact HB.out)) hbq); clear HB hbq; have HB := HBn; clear HBn) | (go_at_call 15; (with_reducible refine at_args #[.slice Ap _ cp, .slice Aq _ cq] ?_); (with_reducible refine (Same_c Ap cp Aq cq LA _ _ rfl rfl _ (by (with_reducible repeat (first | apply Kd.C_alloc | apply Kd.C_drewN | apply Kd.C_drew)); exact Hp.out) (by (with_reducible repeat (first | apply Kd.C_alloc | apply Kd.C_drewN | apply Kd.C_drew)); exact Hq.out) (by omega)).mono ?_); rintro e w' ⟨rfl, hbz⟩; replace Ho := Aside0.mk (by first | exact Kd.C_below Ho.out hbz | exact Kd.C_below (Kd.C_drewN Ho.out _) hbz | exact Kd.C_below (Kd.C_alloc Ho.out _) hbz); replace z0 := ((hbz).cell (World.block_lt_of_cell? _ _ z0)).trans z0; replace z1 := ((hbz).cell (World.block_lt_of_cell? _ _ z1)).trans z1; have HBn := Aside0.mk (below_step (by repeat (first | (with_reducible first | exact HB.out | apply below_alloc | apply pw_below_drewN | apply below_drew1) | exact HB.out)) hbz); clear HB hbz; have HB := HBn; clear HBn) | (go_at_call 20; (with_reducible refine at_args #[.slice A0 m0.length c0] ?_); (with_reducible refine (NX.out _ (Kd.C_below hC0.out (by repeat (first | (with_reducible first | exact HB.out | apply below_alloc | apply pw_below_drewN | apply below_drew1) | exact HB.out)))).mono ?_); rintro e w' ⟨rfl, hbz⟩; replace Ho := Aside0.mk (by first | exact Kd.C_below Ho.out hbz | exact Kd.C_below (Kd.C_drewN Ho.out _) hbz | exact Kd.C_below (Kd.C_alloc Ho.out _) hbz); replace z0 := ((hbz).cell (World.block_lt_of_cell? _ _ z0)).trans z0; replace z1 := ((hbz).cell (World.block_lt_of_cell? _ _ z1)).trans z1; have HBn := Aside0.mk (below_step (by repeat (first | (with_reducible first | exact HB.out | apply below_alloc | apply pw_below_drewN | apply below_drew1) | exact HB.out)) hbz); clear HB hbz; have HB := HBn; clear HBn) | (go_at_call 24; (with_reducible refine at_args #[.slice Ao m0.length co] ?_); (with_reducible refine (NR.out _ _ _ (by (with_reducible repeat (first | apply Kd.C_alloc | apply Kd.C_drewN | apply Kd.C_drew)); exact Ho.out) hco).mono ?_); rintro e w9 ⟨rfl, ⟨nd, hd⟩⟩; have hbz := drawn_below hd; clear hd; replace Ho := Aside0.mk (by first | exact Kd.C_below Ho.out hbz | exact Kd.C_below (Kd.C_drewN Ho.out _) hbz | exact Kd.C_below (Kd.C_alloc Ho.out _) hbz); replace z0 := ((hbz).cell (World.block_lt_of_cell? _ _ z0)).trans z0; replace z1 := ((hbz).cell (World.block_lt_of_cell? _ _ z1)).trans z1; have HBn := Aside0.mk (below_step (by repeat (first | (with_reducible first | exact HB.out | apply below_alloc | apply pw_below_drewN | apply below_drew1) | exact HB.out)) hbz); clear HB hbz; have HB := HBn; clear HBn))
  clear z1 Y0 Y1 KA KR NX NR Hp Hq
  refine start_ (n := 19) (S := fun w' => w'.cell? ⟨w.heap.size, 0, none⟩ = some (.int .i64 at_)) (ds := []) #[false, false, false, false, false, false, false, false, false, false, false, false, false, false, false, false, false, false, false] (by kernel_rfl) rfl rfl (z0) (fun hHeld => ?_)
  replace Ho : Aside0 (Kd.C k26 w9.drew Ao m0.length m0) := ⟨Kd.C_drew Ho.out⟩
  replace HB : Aside0 (Below w.heap.size w w9.drew) := ⟨by repeat (first | (with_reducible first | exact HB.out | apply below_alloc | apply pw_below_drewN | apply below_drew1) | exact HB.out)⟩
  change w9.drew.cell? _ = _ at z0
  generalize w9.drew = wd at Ho HB z0 hHeld ⊢
  refine pure_ (i := 0) (N := some 66) (v := ?_) (a' := ?_) #[true, false, false, false, false, false, false, false, false, false, false, false, false, false, false, false, false, false, false] rfl rfl (by kernel_rfl) (fun _ _ _ h => h) (Or.inl ⟨by rfl, ?_⟩) ?_ ?_
  rotate_left
  · intro w'
    go_simp
    with_reducible rfl
  rotate_left
  · simp only [Act.put, List.setIfInBounds_toArray, List.set_cons_zero, List.set_cons_succ, i64_w, i32_w]
    rfl
  refine pure_ (i := 1) (N := some 67) (v := ?_) (a' := ?_) #[true, true, false, false, false, false, false, false, false, false, false, false, false, false, false, false, false, false, false] rfl rfl (by kernel_rfl) (fun _ _ _ h => h) (Or.inl ⟨by rfl, ?_⟩) ?_ ?_
  rotate_left
  · intro w'
    go_simp
    with_reducible rfl
  rotate_left
  · simp only [Act.put, List.setIfInBounds_toArray, List.set_cons_zero, List.set_cons_succ, i64_w, i32_w]
    rfl
  refine pure_ (i := 2) (N := some 68) (v := ?_) (a' := ?_) #[true, true, true, false, false, false, false, false, false, false, false, false, false, false, false, false, false, false, false] rfl rfl (by kernel_rfl) (fun _ _ _ h => h) (Or.inl ⟨by rfl, ?_⟩) ?_ ?_
  rotate_left
  · intro w'
    go_simp
    with_reducible rfl
  rotate_left
  · simp only [Act.put, List.setIfInBounds_toArray, List.set_cons_zero, List.set_cons_succ, i64_w, i32_w]
    rfl
  refine pure_ (i := 3) (N := some 69) (v := ?_) (a' := ?_) #[true, true, true, true, false, false, false, false, false, false, false, false, false, false, false, false, false, false, false] rfl rfl (by kernel_rfl) (fun _ _ _ h => h) (Or.inl ⟨by rfl, ?_⟩) ?_ ?_
  rotate_left
  · intro w'
    go_simp
    with_reducible rfl
  rotate_left
  · simp only [Act.put, List.setIfInBounds_toArray, List.set_cons_zero, List.set_cons_succ, i64_w, i32_w]
    rfl
  refine pure_ (i := 4) (N := some 70) (v := ?_) (a' := ?_) #[true, true, true, true, true, false, false, false, false, false, false, false, false, false, false, false, false, false, false] rfl rfl (by kernel_rfl) (fun _ _ _ h => h) (Or.inl ⟨by rfl, ?_⟩) ?_ ?_
  rotate_left
  · intro w'
    go_simp
    with_reducible rfl
  rotate_left
  · simp only [Act.put, List.setIfInBounds_toArray, List.set_cons_zero, List.set_cons_succ, i64_w, i32_w]
    rfl
  refine pure_ (i := 5) (N := some 71) (v := ?_) (a' := ?_) #[true, true, true, true, true, true, false, false, false, false, false, false, false, false, false, false, false, false, false] rfl rfl (by kernel_rfl) (fun _ _ _ h => h) (Or.inl ⟨by rfl, ?_⟩) ?_ ?_
  rotate_left
  · intro w'
    go_simp
    with_reducible rfl
  rotate_left
  · simp only [Act.put, List.setIfInBounds_toArray, List.set_cons_zero, List.set_cons_succ, i64_w, i32_w]
    rfl
  refine pure_ (i := 6) (N := some 72) (v := ?_) (a' := ?_) #[true, true, true, true, true, true, true, false, false, false, false, false, false, false, false, false, false, false, false] rfl rfl (by kernel_rfl) (fun _ _ _ h => h) (Or.inl ⟨by rfl, ?_⟩) ?_ ?_
  rotate_left
  · intro w'
    go_simp
    with_reducible rfl
  rotate_left
  · simp only [Act.put, List.setIfInBounds_toArray, List.set_cons_zero, List.set_cons_succ, i64_w, i32_w]
    rfl
  refine pure_ (i := 7) (N := some 73) (v := ?_) (a' := ?_) #[true, true, true, true, true, true, true, true, false, false, false, false, false, false, false, false, false, false, false] rfl rfl (by kernel_rfl) (fun _ _ _ h => h) (Or.inl ⟨by rfl, ?_⟩) ?_ ?_
  rotate_left
  · intro w'
    go_simp
    with_reducible rfl
  rotate_left
  · simp only [Act.put, List.setIfInBounds_toArray, List.set_cons_zero, List.set_cons_succ, i64_w, i32_w]
    rfl
  refine pure_ (i := 8) (N := some 74) (v := ?_) (a' := ?_) #[true, true, true, true, true, true, true, true, true, false, false, false, false, false, false, false, false, false, false] rfl rfl (by kernel_rfl) (fun _ _ _ h => h) (Or.inl ⟨by rfl, ?_⟩) ?_ ?_
  rotate_left
  · intro w'
    go_simp
    with_reducible rfl
  rotate_left
  · simp only [Act.put, List.setIfInBounds_toArray, List.set_cons_zero, List.set_cons_succ, i64_w, i32_w]
    rfl
  refine pure_ (i := 9) (N := some 75) (v := ?_) (a' := ?_) #[true, true, true, true, true, true, true, true, true, true, false, false, false, false, false, false, false, false, false] rfl rfl (by kernel_rfl) (fun _ _ _ h => h) (Or.inl ⟨by rfl, ?_⟩) ?_ ?_
  rotate_left
  · intro w'
    go_simp
    with_reducible rfl
  rotate_left
  · simp only [Act.put, List.setIfInBounds_toArray, List.set_cons_zero, List.set_cons_succ, i64_w, i32_w]
    rfl
  refine pure_ (i := 10) (N := some 76) (v := ?_) (a' := ?_) #[true, true, true, true, true, true, true, true, true, true, true, false, false, false, false, false, false, false, false] rfl rfl (by kernel_rfl) (fun _ _ _ h => h) (Or.inl ⟨by rfl, ?_⟩) ?_ ?_
  rotate_left
  · intro w'
    go_simp
    with_reducible rfl
  rotate_left
  · simp only [Act.put, List.setIfInBounds_toArray, List.set_cons_zero, List.set_cons_succ, i64_w, i32_w]
    rfl
  refine pure_ (i := 13) (N := some 79) (v := ?_) (a' := ?_) #[true, true, true, true, true, true, true, true, true, true, true, false, false, true, false, false, false, false, false] rfl rfl (by kernel_rfl) (fun _ _ _ h => h) (Or.inl ⟨by rfl, ?_⟩) ?_ ?_
  rotate_left
  · intro w'
    go_simp
    with_reducible rfl
  rotate_left
  · simp only [Act.put, List.setIfInBounds_toArray, List.set_cons_zero, List.set_cons_succ, i64_w, i32_w]
    rfl
  refine pure_ (i := 14) (N := some 80) (v := ?_) (a' := ?_) #[true, true, true, true, true, true, true, true, true, true, true, false, false, true, true, false, false, false, false] rfl rfl (by kernel_rfl) (fun _ _ _ h => h) (Or.inl ⟨by rfl, ?_⟩) ?_ ?_
  rotate_left
  · intro w'
    go_simp
    with_reducible rfl
  rotate_left
  · simp only [Act.put, List.setIfInBounds_toArray, List.set_cons_zero, List.set_cons_succ, i64_w, i32_w]
    rfl
  refine take_ (i := 11) (N := some 77) (v := ?_) (a' := ?_) #[true, true, true, true, true, true, true, true, true, true, true, true, false, true, true, false, false, false, false] rfl rfl (by kernel_rfl) (fun _ _ _ h => h) (Or.inl ⟨by rfl, ?_⟩) hHeld ?_ ?_
  rotate_left
  · intro w' s0
    go_simp
    with_reducible rfl
  rotate_left
  · simp only [Act.put, List.setIfInBounds_toArray, List.set_cons_zero, List.set_cons_succ, i64_w, i32_w]
    rfl
  refine take_ (i := 15) (N := some 81) (v := ?_) (a' := ?_) #[true, true, true, true, true, true, true, true, true, true, true, true, false, true, true, true, false, false, false] rfl rfl (by kernel_rfl) (fun _ _ _ h => h) (Or.inl ⟨by rfl, ?_⟩) hHeld ?_ ?_
  rotate_left
  · intro w' s0
    go_simp
    with_reducible rfl
  rotate_left
  · simp only [Act.put, List.setIfInBounds_toArray, List.set_cons_zero, List.set_cons_succ, i64_w, i32_w]
    rfl
  refine one_ (i := 12) (N := some 78) #[true, true, true, true, true, true, true, true, true, true, true, true, true, true, true, true, false, false, false] rfl rfl (by kernel_rfl) (by decide) (fun K hK => ?_)
  refine goes_ Try.func25 (by kernel_rfl) rfl #[.slice A0 m0.length c0, .int .i64 at_] (by rfl) rfl rfl (by simp only [List.map_toArray, List.map_cons, List.map_nil]; rfl) ?_
  with_reducible refine (TO.out _ (Kd.C_below hC0.out (by repeat (first | (with_reducible first | exact HB.out | apply below_alloc | apply pw_below_drewN | apply below_drew1) | exact HB.out)))).mono ?_
  rintro e w10 ⟨rfl, hbz⟩
  refine ⟨_, rfl, ?_⟩
  replace z0 := (hbz.cell (World.block_lt_of_cell? _ _ z0)).trans z0
  replace Ho := Aside0.mk (Kd.C_below Ho.out hbz)
  have HBn := Aside0.mk (below_step (by repeat (first | (with_reducible first | exact HB.out | apply below_alloc | apply pw_below_drewN | apply below_drew1) | exact HB.out)) hbz)
  clear HB hbz
  have HB := HBn
  clear HBn
  refine hK.out _ _ (z0) (fun hHeld => ?_)
  clear hK K
  refine norm_ (a' := ?_) ?_ ?_
  rotate_left
  · show Act.put _ (some 78) _ = _
    simp only [Act.put, List.setIfInBounds_toArray, List.set_cons_zero, List.set_cons_succ, i64_w, i32_w]
    rfl
  refine one_ (i := 16) (N := some 82) #[true, true, true, true, true, true, true, true, true, true, true, true, true, true, true, true, true, false, false] rfl rfl (by kernel_rfl) (by decide) (fun K hK => ?_)
  refine goes_ Try.func26 (by kernel_rfl) rfl #[.slice Ao m0.length co, .int .i64 at_] (by rfl) rfl rfl (by simp only [List.map_toArray, List.map_cons, List.map_nil]; rfl) ?_
  with_reducible refine (TR.out _ _ _ Ho.out hco).mono ?_
  rintro e w11 ⟨rfl, ⟨nd2, hd⟩⟩
  refine ⟨_, rfl, ?_⟩
  have hbz := drawn_below hd
  clear hd
  replace z0 := (hbz.cell (World.block_lt_of_cell? _ _ z0)).trans z0
  replace Ho := Aside0.mk (Kd.C_below Ho.out hbz)
  have HBn := Aside0.mk (below_step (by repeat (first | (with_reducible first | exact HB.out | apply below_alloc | apply pw_below_drewN | apply below_drew1) | exact HB.out)) hbz)
  clear HB hbz
  have HB := HBn
  clear HBn
  refine hK.out _ _ (z0) (fun hHeld => ?_)
  clear hK K
  refine norm_ (a' := ?_) ?_ ?_
  rotate_left
  · show Act.put _ (some 82) _ = _
    simp only [Act.put, List.setIfInBounds_toArray, List.set_cons_zero, List.set_cons_succ, i64_w, i32_w]
    rfl
  refine pure_ (i := 17) (N := some 83) (v := ?_) (a' := ?_) #[true, true, true, true, true, true, true, true, true, true, true, true, true, true, true, true, true, true, false] rfl rfl (by kernel_rfl) (fun _ _ _ h => h) (Or.inl ⟨by rfl, ?_⟩) ?_ ?_
  rotate_left
  · intro w'
    go_simp
    with_reducible rfl
  rotate_left
  · simp only [Act.put, List.setIfInBounds_toArray, List.set_cons_zero, List.set_cons_succ, i64_w, i32_w]
    rfl
  refine pure_ (i := 18) (N := some 84) (v := ?_) (a' := ?_) #[true, true, true, true, true, true, true, true, true, true, true, true, true, true, true, true, true, true, true] rfl rfl (by kernel_rfl) (fun _ _ _ h => h) (Or.inl ⟨by rfl, ?_⟩) ?_ ?_
  rotate_left
  · intro w'
    go_simp
    with_reducible rfl
  rotate_left
  · simp only [Act.put, List.setIfInBounds_toArray, List.set_cons_zero, List.set_cons_succ, i64_w, i32_w]
    rfl
  refine done_ (by kernel_rfl) ?_

  clear z0 TO TR
  go_wp2_with (first | (go_at_call 19; (with_reducible refine at_args #[.slice A0 m0.length c0, .slice A2 m2.length c2] ?_); (with_reducible refine (SV.out _ (Kd.C_below hC0.out (by repeat (first | (with_reducible first | exact HB.out | apply below_alloc | apply pw_below_drewN | apply below_drew1) | exact HB.out))) (Kd.C_below hC2.out (by repeat (first | (with_reducible first | exact HB.out | apply below_alloc | apply pw_below_drewN | apply below_drew1) | exact HB.out)))).mono ?_); rintro e w12 ⟨vx, rfl, hRx, hbx⟩; obtain ⟨Ax, cx, rfl, hcx, hCx⟩ := Kd.R_reads hRx; have Hx := Aside0.mk hCx; clear hRx hCx; replace Ho := Aside0.mk (by first | exact Kd.C_below Ho.out hbx | exact Kd.C_below (Kd.C_drewN Ho.out _) hbx | exact Kd.C_below (Kd.C_alloc Ho.out _) hbx); have s0 : (w12.alloc (.cells #[.int .i64 cA, .int .u16 cW] 46)).cell? ⟨w12.heap.size, 0, none⟩ = some (.int .i64 cA) := (by rw [World.cell?_alloc_mark]; rfl); have s1 : (w12.alloc (.cells #[.int .i64 cA, .int .u16 cW] 46)).cell? ⟨w12.heap.size, 1, none⟩ = some (.int .u16 cW) := (by rw [World.cell?_alloc_mark]; rfl); have HBn := Aside0.mk (below_step (by repeat (first | (with_reducible first | exact HB.out | apply below_alloc | apply pw_below_drewN | apply below_drew1) | exact HB.out)) hbx); clear HB hbx; have HB := HBn; clear HBn) | (go_at_call 27; (with_reducible refine at_args #[.slice Ao m0.length co, .slice A2 m2.length c2] ?_); (with_reducible refine (SR.out _ _ _ (by (with_reducible repeat (first | apply Kd.C_alloc | apply Kd.C_drewN | apply Kd.C_drew)); exact Ho.out) hco (Kd.C_below hC2.out (by repeat (first | (with_reducible first | exact HB.out | apply below_alloc | apply pw_below_drewN | apply below_drew1) | exact HB.out)))).mono ?_); rintro e w13 ⟨vy, rfl, hRy, hby⟩; obtain ⟨Ay, cy, rfl, hcy, hCy⟩ := Kd.R_reads hRy; have Hy := Aside0.mk hCy; clear hRy hCy; replace Ho := Aside0.mk (by first | exact Kd.C_below Ho.out hby | exact Kd.C_below (Kd.C_drewN Ho.out _) hby | exact Kd.C_below (Kd.C_alloc Ho.out _) hby); replace Hx := Aside0.mk (by first | exact Kd.C_below Hx.out hby | exact Kd.C_below (Kd.C_drewN Hx.out _) hby | exact Kd.C_below (Kd.C_alloc Hx.out _) hby); replace s0 := ((hby).cell (World.block_lt_of_cell? _ _ s0)).trans s0; replace s1 := ((hby).cell (World.block_lt_of_cell? _ _ s1)).trans s1; have t0 : (w13.alloc (.cells #[.int .i64 cA, .int .u16 cW] 46)).cell? ⟨w13.heap.size, 0, none⟩ = some (.int .i64 cA) := (by rw [World.cell?_alloc_mark]; rfl); have t1 : (w13.alloc (.cells #[.int .i64 cA, .int .u16 cW] 46)).cell? ⟨w13.heap.size, 1, none⟩ = some (.int .u16 cW) := (by rw [World.cell?_alloc_mark]; rfl); have HBn := Aside0.mk (below_step (by repeat (first | (with_reducible first | exact HB.out | apply below_alloc | apply pw_below_drewN | apply below_drew1) | exact HB.out)) hby); clear HB hby; have HB := HBn; clear HBn) | (go_at_call 15; (with_reducible refine at_args #[.slice Ax _ cx, .slice Ay _ cy] ?_); (with_reducible refine (Same_c Ax cx Ay cy LS _ _ rfl rfl _ (by (with_reducible repeat (first | apply Kd.C_alloc | apply Kd.C_drewN | apply Kd.C_drew)); exact Hx.out) (by (with_reducible repeat (first | apply Kd.C_alloc | apply Kd.C_drewN | apply Kd.C_drew)); exact Hy.out) (by omega)).mono ?_); rintro e w14 ⟨rfl, hbz⟩; replace Ho := Aside0.mk (by first | exact Kd.C_below Ho.out hbz | exact Kd.C_below (Kd.C_drewN Ho.out _) hbz | exact Kd.C_below (Kd.C_alloc Ho.out _) hbz); replace s0 := ((hbz).cell (World.block_lt_of_cell? _ _ (cell_keep s0))).trans (cell_keep s0); replace s1 := ((hbz).cell (World.block_lt_of_cell? _ _ (cell_keep s1))).trans (cell_keep s1); replace t0 := ((hbz).cell (World.block_lt_of_cell? _ _ t0)).trans t0; replace t1 := ((hbz).cell (World.block_lt_of_cell? _ _ t1)).trans t1; have HBn := Aside0.mk (below_step (by repeat (first | (with_reducible first | exact HB.out | apply below_alloc | apply pw_below_drewN | apply below_drew1) | exact HB.out)) hbz); clear HB hbz; have HB := HBn; clear HBn) | (go_at_call 15; (with_reducible refine at_args #[.slice A0 _ c0, .slice Ao _ co] ?_); (with_reducible refine (Same_c A0 c0 Ao co m0 _ _ rfl rfl _ (Kd.C_below hC0.out (by repeat (first | (with_reducible first | exact HB.out | apply below_alloc | apply pw_below_drewN | apply below_drew1) | exact HB.out))) (by (with_reducible repeat (first | apply Kd.C_alloc | apply Kd.C_drewN | apply Kd.C_drew)); exact Ho.out) (by omega)).mono ?_); rintro e w' ⟨rfl, hbz⟩; have HBn := Aside0.mk (below_step (by repeat (first | (with_reducible first | exact HB.out | apply below_alloc | apply pw_below_drewN | apply below_drew1) | exact HB.out)) hbz); clear HB hbz; have HB := HBn; clear HBn) | (go_at_call 16; (with_reducible refine at_args #[] ?_); (with_reducible refine (works_c _).mono ?_); rintro e w' ⟨rfl, hbw⟩; have HBn := Aside0.mk (below_step (by repeat (first | (with_reducible first | exact HB.out | apply below_alloc | apply pw_below_drewN | apply below_drew1) | exact HB.out)) hbw); clear HB hbw; have HB := HBn; clear HBn))
  go_ret
  exact ⟨rfl, by repeat (first | (with_reducible first | exact HB.out | apply below_alloc | apply pw_below_drewN | apply below_drew1) | exact HB.out)⟩
theorem queues_law (a0 : Option Addr) (len0 cap0 : Nat) (z0 : List S26) (a1_0 a1_1 : Int) (a2 : Option Addr) (len2 cap2 : Nat) (z2 : List Int) (w : World)
    (e0 : z0.length = len0) (c0 : len0 ≤ cap0) (w0 : Kd.C k26 w a0 len0 z0) (b0 : ∀ y ∈ z0, (Lit.int .i64 y.f0).wf = true ∧ (Lit.int .u8 y.f1).wf = true) (y0 : len0 * 16 ≤ 140737488351232) (w1_0 : (Lit.int .i64 a1_0).wf = true) (w1_1 : (Lit.int .u8 a1_1).wf = true)
    (w2 : (a2 = none ∧ len2 = 0 ∧ cap2 = 0 ∧ z2 = []) ∨ ∃ x, a2 = some x ∧ len2 ≤ cap2 ∧ cap2 ≤ maxLen ∧ z2.length = cap2 ∧ (∀ i, i < z2.length → w.cell? (x.add i) = some (.int .u16 (z2.getD i 0))) ∧ ∀ n ∈ z2, (Lit.int .u16 n).wf = true) (y2 : len2 * 2 ≤ 140737488351232) :
    Calls Try.prog 9 #[.slice a0 len0 cap0, .agg #[.int .i64 a1_0, .int .u8 a1_1], .slice a2 len2 cap2] w fun e w' => e = .returned (.bool true) ∧ Below w.heap.size w w' := by
  obtain ⟨l2, rfl, hr2, hm2, hw2, hc2⟩ := ReadsInt.ofRowC w2
  subst e0
  exact queues_calls _ _ z0 a1_0 a1_1 _ _ l2 w w0 c0 (Kd.C_of_reads (d := (0 : Int)) (h1 := fun _ => rfl) hr2) hc2 (fun x hx => by obtain ⟨n, rfl, h⟩ := wf16 (hw2 x hx); omega)
end Go.Proofs.Ytebnodldfddbnaa.Cnt
