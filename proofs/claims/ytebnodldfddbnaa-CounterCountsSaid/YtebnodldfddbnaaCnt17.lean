/- The law CounterOrder: pulses are served by ascending counters, each counter's in their order. -/
import Derived.Test.YtebnodldfddbnaaCnt15
import Derived.Test.YtebnodldfddbnaaCnt16
import Derived.Test.YtebnodldfddbnaaOwn
namespace Go.Proofs.Ytebnodldfddbnaa.Cnt
open Go.RowKit Go.Proofs.Ytebnodldfddbnaa.PAll Go.Proofs.YtebnodldfddbnaaW.PrintWords Go.Proofs.YtebnodldfddbnaaW.PrintLast Go.Proofs.YtebnodldfddbnaaW.PrintMore Go.Proofs.Ytebnodldfddbnaa.Plain Go.Proofs.Ytebnodldfddbnaa.One Go.Proofs.Ytebnodldfddbnaa.Lit Go.Proofs.Ytebnodldfddbnaa.Own
set_option linter.unusedVariables false
set_option linter.unusedSimpArgs false
def qp (y : Int) : S26 := ⟨20 + y / 7 % 28, 1 + y % 7⟩
def qs (pl : List Int) (i : Nat) : List S26 := (pl.take i).map qp
theorem qs_len (pl : List Int) (i : Nat) : (qs pl i).length ≤ i := by unfold qs; rw [List.length_map, List.length_take]; omega
theorem qs_next (pl : List Int) (i : Nat) (h : i < pl.length) : qs pl i ++ [qp (rd pl i)] = qs pl (i + 1) := by
  unfold qs
  rw [List.take_succ_eq_append_getElem h, List.map_append]
  congr 1
  unfold rd
  rw [Int.toNat_natCast, List.getD_eq_getElem?_getD, List.getElem?_eq_getElem h]; rfl
theorem qs_valid (pl : List Int) (hb : ∀ x ∈ pl, 0 ≤ x ∧ x < 256) (i : Nat) : VQ (qs pl i) := by
  intro p hp
  unfold qs at hp
  obtain ⟨y, hy, rfl⟩ := List.mem_map.mp hp
  have := hb y (List.mem_of_mem_take hy)
  unfold qp
  dsimp only
  omega
theorem gstep {k g n : Nat} (h : k + (g + 1) = n) : k + 1 + g = n := by omega
theorem VQ_take {l : List S26} (h : VQ l) (k : Nat) : VQ (l.take k) := fun p hp => h p (List.mem_of_mem_take hp)
theorem fo_next (i u : Int) (Q : List S26) (k : Nat) (h : k < Q.length) : fo i u (Q.take (k + 1)) = if (rd_T26 Q (k : Int)).f0 = i then apN (fo i u (Q.take k) % 32768) (rd_T26 Q (k : Int)).f1 else fo i u (Q.take k) := by
  rw [take_next Q k h, fo_app]; rfl
theorem dmN_range (n : Int) (h0 : 0 ≤ n) (h1 : n < 32768) : 0 ≤ dmN n ∧ dmN n < 32768 := by
  unfold dmN; split
  · omega
  · split <;> omega
theorem apN_range (n k : Int) (h0 : 0 ≤ n) (h1 : n < 32768) : 0 ≤ apN n k ∧ apN n k < 32768 := by
  have hd := dmN_range n h0 h1
  have ha : ∀ m : Int, 0 ≤ m → m < 32768 → 0 ≤ addI n m ∧ addI n m < 32768 := fun m m0 m1 => by unfold addI; split <;> omega
  have h2 := ha 1 (by decide) (by decide)
  have h3 := ha 32766 (by decide) (by decide)
  unfold apN
  repeat' split
  all_goals omega
theorem fo_range (i : Int) : ∀ (l : List S26) (u : Int), 0 ≤ u ∧ u < 65536 → VQ l → 0 ≤ fo i u l ∧ fo i u l < 65536
  | [], u, h, _ => h
  | p :: l, u, h, hv => by
    simp only [fo]
    refine fo_range i l _ ?_ fun q hq => hv q (List.mem_cons_of_mem _ hq)
    split
    · have := apN_range (u % 32768) p.f1 (by omega) (by omega); omega
    · exact h
/-- The two memories while they are laid out: up to counter i done. -/
def ST (u : Int) (Q : List S26) (i : Int) (eL wL : List Int) : Prop := (∀ j, 20 ≤ j → j < i → rd eL j = u ∧ rd wL j = fo j u Q) ∧ ∀ j, 0 ≤ j → j < 48 → 0 ≤ rd eL j ∧ rd eL j < 65536
theorem ST_start (u : Int) (Q : List S26) : ST u Q 20 (List.replicate (Int.toNat 48) 0) (List.replicate (Int.toNat 48) 0) :=
  ⟨fun j h1 h2 => by omega, fun j _ _ => by rw [rd_rep]; decide⟩
theorem ST_next {u : Int} {Q : List S26} {i : Int} {eL wL : List Int} {y : Int} (h : ST u Q i eL wL) (he : eL.length = 48) (hw : wL.length = 48) (i0 : 0 ≤ i) (i1 : i < 48) (ur : 0 ≤ u ∧ u < 65536) (hy : fo i u Q = y) : ST u Q (i + 1) (eL.set i.toNat u) (wL.set i.toNat y) := by
  refine ⟨fun j h1 h2 => ?_, fun j h1 h2 => ?_⟩
  · rw [Own.rd_set he i u i0 i1 j (by omega), Own.rd_set hw i y i0 i1 j (by omega)]
    by_cases e : j = i
    · rw [if_pos e, if_pos e, e]; exact ⟨rfl, hy.symm⟩
    · rw [if_neg e, if_neg e]; exact h.1 j h1 (by omega)
  · rw [Own.rd_set he i u i0 i1 j h1]
    split
    · exact ur
    · exact h.2 j h1 h2
/-- While pulses are served: what is left of the queue leads from the memory to the memory that is wanted. -/
def INV (la : Int) (l : List S26) (eL wL : List Int) : Prop := VQ l ∧ (∀ p ∈ l, la ≤ p.f0) ∧ (∀ j, 20 ≤ j → j < 48 → fo j (rd eL j) l = rd wL j) ∧ ∀ j, 0 ≤ j → j < 48 → 0 ≤ rd eL j ∧ rd eL j < 65536
theorem INV_start {u : Int} {Q : List S26} {i : Int} {eL wL : List Int} (h : ST u Q i eL wL) (hi : i = 48) (hv : VQ Q) : INV 0 Q eL wL := by
  subst hi
  exact ⟨hv, fun p hp => by have := hv p hp; omega, fun j h1 h2 => by rw [(h.1 j h1 h2).1, (h.1 j h1 h2).2], h.2⟩
theorem INV_next {la : Int} {l : List S26} {eL wL : List Int} (h : INV la l eL wL) (hp : 0 < l.length) (he : eL.length = 48) :
    sE l eL = 0 ∧ (20 ≤ sA l eL ∧ sA l eL ≤ 47 ∧ la ≤ sA l eL) ∧ (sL l eL).length + 1 = l.length ∧ INV (sA l eL) (sL l eL) (eL.set (sA l eL).toNat (sW l eL)) wL := by
  obtain ⟨hv, hla, hf, hr⟩ := h
  obtain ⟨a, b, e, eL1, e0, eA, eW, -, -, -⟩ := serve_ok_all l eL hp hv he
  obtain ⟨v1, v2, v3⟩ := VQ_serve l eL hp hv he
  have hm : pS l ∈ l := by have q := List.mem_append_right a (List.mem_cons_self (a := pS l) (l := b)); rwa [← e] at q
  have hv0 := hv _ hm
  have hl0 := hla _ hm
  have hw := apN_range (rd eL (pS l).f0 % 32768) (pS l).f1 (by omega) (by omega)
  refine ⟨e0, by rw [eA]; omega, v2, v1, v3, fun j h1 h2 => ?_, fun j h1 h2 => ?_⟩
  · rw [fo_serve l eL hp hv he j (by omega)]; exact hf j h1 h2
  · rw [Own.rd_set he (sA l eL) (sW l eL) (by omega) (by omega) j h1]
    split
    · rw [eW]; omega
    · exact hr j h1 h2
set_option maxRecDepth 100000 in
set_option maxHeartbeats 8000000 in
theorem order_calls (A0 : Option Addr) (c0 : Nat) (pl : List Int) (x : Int) (x0 : 0 ≤ x) (x1 : x < 65536) (w : World) (hr0 : Kd.C (Kd.int .u8) w A0 pl.length pl) (hc0 : pl.length ≤ c0) (hb0 : ∀ x ∈ pl, 0 ≤ x ∧ x < 256) :
    Calls Try.prog 7 #[.slice A0 pl.length c0, .int .u16 x] w fun e w' => e = .returned (.bool true) ∧ Below w.heap.size w w' := by
  have HB := Aside0.mk (Below.refl w.heap.size w)
  have hC0 := Aside0.mk hr0
  have hV := Lib.hid (qs_valid pl hb0)
  have hY := Lib.hid hb0
  clear hr0 hb0
  go_enter Try.func7, Try.ntmps7
  go_wp2
  go_loopg [5, 6] 64 (fun g v5 v6 w' => ∃ (i : Nat) (vq : Value), vq = v5 ∧ v6 = .int .i64 (i : Int) ∧ Aside0 (i + g = 64 ∧ i ≤ pl.length) ∧ Aside0 (Kd.R k26 26 w' w.heap.size (fun _ => True) vq (qs pl i)) ∧ Aside0 (Below w.heap.size w w'))
  case atStart => exact ⟨0, _, rfl, rfl, ⟨by omega⟩, ⟨by unfold qs; exact Kd.R_nil _ _ _ _ _⟩, HB⟩
  case round =>
    as_aux_lemma =>
    clear HB
    obtain ⟨i, vq, rfl, rfl, hg, RQ, HB⟩ := hrel
    by_cases hlt : i < pl.length ∧ i < 64
    · obtain ⟨hl1, hl2⟩ := hlt
      obtain ⟨g, rfl⟩ : ∃ g, gk = g + 1 := ⟨gk - 1, by have := hg.out; omega⟩
      have hi64 := Aside0.mk hl2
      have b0 : decide ((i : Int) < (pl.length : Int)) = true := decide_eq_true (by omega)
      have b0' : decide (i < pl.length) = true := decide_eq_true hl1
      have b1 : decide ((i : Int) < 64) = true := decide_eq_true (by omega)
      have b1' : decide (i < 64) = true := decide_eq_true hl2
      have QN := Lib.hid (qs_next pl i hl1)
      obtain ⟨ad, eA, hx⟩ := Kd.at_int (Kd.C_below hC0.out HB.out) (i : Int) (by omega) (by omega)
      cases eA
      rw [Int.toNat_natCast] at hx
      have hy := hY.out _ (show rd pl i ∈ pl by unfold rd; rw [Int.toNat_natCast, List.getD_eq_getElem?_getD, List.getElem?_eq_getElem hl1]; exact List.getElem_mem hl1)
      generalize rd pl i = y at hx hy QN
      have t1 : Int.tdiv y 7 = y / 7 := Int.tdiv_eq_ediv_of_nonneg hy.1
      have t2 : Int.tmod (y / 7) 28 = y / 7 % 28 := Int.tmod_eq_emod_of_nonneg (by omega)
      have t3 : Int.tmod y 7 = y % 7 := Int.tmod_eq_emod_of_nonneg hy.1
      have u1 : IntKind.u8.wrap (y / 7) = y / 7 := by rw [IntKind.wrap_u8]; omega
      have u2 : IntKind.u8.wrap (1 + y % 7) = 1 + y % 7 := by rw [IntKind.wrap_u8]; omega
      have u3 : wrap64 (y / 7) = y / 7 := w64 (by omega) (by omega)
      have u4 : wrap64 (20 + y / 7 % 28) = 20 + y / 7 % 28 := w64 (by omega) (by omega)
      have q0 := eq_true (show (0 : Int) ≤ (i : Int) by omega)
      have q1 := eq_true (show (i : Int) < (pl.length : Int) by omega)
      have q2 := eq_true hl1
      have u5 : wrap64 ((i : Int) + 1) = (i : Int) + 1 := w64 (by omega) (by omega)
      have hl3 := Aside0.mk hl1
      have hg1 := hg
      clear hg hl1 hl2 hy
      go_wp2
      refine start_ (n := 19) (S := fun w' => w'.cell? (ad.add i) = some (.int .u8 y)) (ds := [16, 17]) #[false, false, false, false, false, false, false, false, false, false, false, false, false, false, false, false, false, false, false] (by kernel_rfl) rfl rfl (hx) (fun hHeld => ?_)
      replace RQ : Aside0 (Kd.R k26 26 wr.drew w.heap.size (fun _ => True) vq (qs pl i)) := ⟨Kd.R_drew RQ.out⟩
      replace HB : Aside0 (Below w.heap.size w wr.drew) := ⟨by repeat (first | (with_reducible first | exact HB.out | apply below_alloc | apply pw_below_drewN | apply below_drew1) | exact HB.out)⟩
      change wr.drew.cell? _ = _ at hx
      generalize wr.drew = wd at RQ HB hx hHeld ⊢
      refine pure_ (i := 0) (N := some 35) (v := ?_) (a' := ?_) #[true, false, false, false, false, false, false, false, false, false, false, false, false, false, false, false, false, false, false] rfl rfl (by kernel_rfl) (fun _ _ _ h => h) (Or.inl ⟨by rfl, ?_⟩) ?_ ?_
      rotate_left
      · intro w'
        go_simp
        with_reducible rfl
      rotate_left
      · simp only [Act.put, List.setIfInBounds_toArray, List.set_cons_zero, List.set_cons_succ, i64_w, i32_w]
        rfl
      refine pure_ (i := 1) (N := some 36) (v := ?_) (a' := ?_) #[true, true, false, false, false, false, false, false, false, false, false, false, false, false, false, false, false, false, false] rfl rfl (by kernel_rfl) (fun _ _ _ h => h) (Or.inl ⟨by rfl, ?_⟩) ?_ ?_
      rotate_left
      · intro w'
        go_simp
        with_reducible rfl
      rotate_left
      · simp only [Act.put, List.setIfInBounds_toArray, List.set_cons_zero, List.set_cons_succ, i64_w, i32_w]
        rfl
      refine pure_ (i := 2) (N := some 37) (v := ?_) (a' := ?_) #[true, true, true, false, false, false, false, false, false, false, false, false, false, false, false, false, false, false, false] rfl rfl (by kernel_rfl) (fun _ _ _ h => h) (Or.inl ⟨by rfl, ?_⟩) ?_ ?_
      rotate_left
      · intro w'
        go_simp
        with_reducible rfl
      rotate_left
      · simp only [Act.put, List.setIfInBounds_toArray, List.set_cons_zero, List.set_cons_succ, i64_w, i32_w]
        rfl
      refine pure_ (i := 3) (N := some 38) (v := ?_) (a' := ?_) #[true, true, true, true, false, false, false, false, false, false, false, false, false, false, false, false, false, false, false] rfl rfl (by kernel_rfl) (fun _ _ _ h => h) (Or.inl ⟨by rfl, ?_⟩) ?_ ?_
      rotate_left
      · intro w'
        go_simp
        with_reducible rfl
      rotate_left
      · simp only [Act.put, List.setIfInBounds_toArray, List.set_cons_zero, List.set_cons_succ, i64_w, i32_w]
        rfl
      refine pure_ (i := 9) (N := some 44) (v := ?_) (a' := ?_) #[true, true, true, true, false, false, false, false, false, true, false, false, false, false, false, false, false, false, false] rfl rfl (by kernel_rfl) (fun _ _ _ h => h) (Or.inl ⟨by rfl, ?_⟩) ?_ ?_
      rotate_left
      · intro w'
        go_simp
        with_reducible rfl
      rotate_left
      · simp only [Act.put, List.setIfInBounds_toArray, List.set_cons_zero, List.set_cons_succ, i64_w, i32_w]
        rfl
      refine pure_ (i := 10) (N := some 45) (v := ?_) (a' := ?_) #[true, true, true, true, false, false, false, false, false, true, true, false, false, false, false, false, false, false, false] rfl rfl (by kernel_rfl) (fun _ _ _ h => h) (Or.inl ⟨by rfl, ?_⟩) ?_ ?_
      rotate_left
      · intro w'
        go_simp
        with_reducible rfl
      rotate_left
      · simp only [Act.put, List.setIfInBounds_toArray, List.set_cons_zero, List.set_cons_succ, i64_w, i32_w]
        rfl
      refine pure_ (i := 11) (N := some 46) (v := ?_) (a' := ?_) #[true, true, true, true, false, false, false, false, false, true, true, true, false, false, false, false, false, false, false] rfl rfl (by kernel_rfl) (fun _ _ _ h => h) (Or.inl ⟨by rfl, ?_⟩) ?_ ?_
      rotate_left
      · intro w'
        go_simp
        with_reducible rfl
      rotate_left
      · simp only [Act.put, List.setIfInBounds_toArray, List.set_cons_zero, List.set_cons_succ, i64_w, i32_w]
        rfl
      refine take_ (i := 4) (N := some 39) (v := ?_) (a' := ?_) #[true, true, true, true, true, false, false, false, false, true, true, true, false, false, false, false, false, false, false] rfl rfl (by kernel_rfl) (fun _ _ _ h => h) (Or.inl ⟨by rfl, ?_⟩) hHeld ?_ ?_
      rotate_left
      · intro w' s0
        go_simp
        with_reducible rfl
      rotate_left
      · simp only [Act.put, List.setIfInBounds_toArray, List.set_cons_zero, List.set_cons_succ, i64_w, i32_w]
        rfl
      refine pure_ (i := 5) (N := some 40) (v := ?_) (a' := ?_) #[true, true, true, true, true, true, false, false, false, true, true, true, false, false, false, false, false, false, false] rfl rfl (by kernel_rfl) (fun _ _ _ h => h) (Or.inl ⟨by rfl, ?_⟩) ?_ ?_
      rotate_left
      · intro w'
        go_simp
        with_reducible rfl
      rotate_left
      · simp only [Act.put, List.setIfInBounds_toArray, List.set_cons_zero, List.set_cons_succ, i64_w, i32_w]
        rfl
      refine pure_ (i := 6) (N := some 41) (v := ?_) (a' := ?_) #[true, true, true, true, true, true, true, false, false, true, true, true, false, false, false, false, false, false, false] rfl rfl (by kernel_rfl) (fun _ _ _ h => h) (Or.inl ⟨by rfl, ?_⟩) ?_ ?_
      rotate_left
      · intro w'
        go_simp
        with_reducible rfl
      rotate_left
      · simp only [Act.put, List.setIfInBounds_toArray, List.set_cons_zero, List.set_cons_succ, i64_w, i32_w]
        rfl
      refine pure_ (i := 7) (N := some 42) (v := ?_) (a' := ?_) #[true, true, true, true, true, true, true, true, false, true, true, true, false, false, false, false, false, false, false] rfl rfl (by kernel_rfl) (fun _ _ _ h => h) (Or.inl ⟨by rfl, ?_⟩) ?_ ?_
      rotate_left
      · intro w'
        go_simp
        with_reducible rfl
      rotate_left
      · simp only [Act.put, List.setIfInBounds_toArray, List.set_cons_zero, List.set_cons_succ, i64_w, i32_w]
        rfl
      refine pure_ (i := 8) (N := some 43) (v := ?_) (a' := ?_) #[true, true, true, true, true, true, true, true, true, true, true, true, false, false, false, false, false, false, false] rfl rfl (by kernel_rfl) (fun _ _ _ h => h) (Or.inl ⟨by rfl, ?_⟩) ?_ ?_
      rotate_left
      · intro w'
        go_simp
        with_reducible rfl
      rotate_left
      · simp only [Act.put, List.setIfInBounds_toArray, List.set_cons_zero, List.set_cons_succ, i64_w, i32_w]
        rfl
      refine take_ (i := 12) (N := some 47) (v := ?_) (a' := ?_) #[true, true, true, true, true, true, true, true, true, true, true, true, true, false, false, false, false, false, false] rfl rfl (by kernel_rfl) (fun _ _ _ h => h) (Or.inl ⟨by rfl, ?_⟩) hHeld ?_ ?_
      rotate_left
      · intro w' s0
        go_simp
        with_reducible rfl
      rotate_left
      · simp only [Act.put, List.setIfInBounds_toArray, List.set_cons_zero, List.set_cons_succ, i64_w, i32_w]
        rfl
      refine pure_ (i := 13) (N := some 48) (v := ?_) (a' := ?_) #[true, true, true, true, true, true, true, true, true, true, true, true, true, true, false, false, false, false, false] rfl rfl (by kernel_rfl) (fun _ _ _ h => h) (Or.inl ⟨by rfl, ?_⟩) ?_ ?_
      rotate_left
      · intro w'
        go_simp
        with_reducible rfl
      rotate_left
      · simp only [Act.put, List.setIfInBounds_toArray, List.set_cons_zero, List.set_cons_succ, i64_w, i32_w]
        rfl
      refine pure_ (i := 14) (N := some 49) (v := ?_) (a' := ?_) #[true, true, true, true, true, true, true, true, true, true, true, true, true, true, true, false, false, false, false] rfl rfl (by kernel_rfl) (fun _ _ _ h => h) (Or.inl ⟨by rfl, ?_⟩) ?_ ?_
      rotate_left
      · intro w'
        go_simp
        with_reducible rfl
      rotate_left
      · simp only [Act.put, List.setIfInBounds_toArray, List.set_cons_zero, List.set_cons_succ, i64_w, i32_w]
        rfl
      refine pure_ (i := 15) (N := some 50) (v := ?_) (a' := ?_) #[true, true, true, true, true, true, true, true, true, true, true, true, true, true, true, true, false, false, false] rfl rfl (by kernel_rfl) (fun _ _ _ h => h) (Or.inl ⟨by rfl, ?_⟩) ?_ ?_
      rotate_left
      · intro w'
        go_simp
        with_reducible rfl
      rotate_left
      · simp only [Act.put, List.setIfInBounds_toArray, List.set_cons_zero, List.set_cons_succ, i64_w, i32_w]
        rfl
      refine last_ (i := 16) (N := some 51) #[true, true, true, true, true, true, true, true, true, true, true, true, true, true, true, true, true, false, false] rfl rfl (by kernel_rfl) (by decide) (fun K hK => ?_)
      refine value_ (w1 := ?_) (v := ?_) (by rfl) rfl ?_ ?_
      rotate_left 2
      · go_simp
        constructor
        · rfl
        · rfl
      have C51 := Aside0.mk (litP wd wd.heap.size (20 + y / 7 % 28) (1 + y % 7) rfl)
      obtain ⟨b51, hb51⟩ : ∃ b, wd.heap.size = b := ⟨_, rfl⟩
      rw [hb51] at C51 ⊢
      replace HB : Aside0 (Below w.heap.size w (wd.alloc (.cells #[.int .i64 (20 + y / 7 % 28), .int .u8 (1 + y % 7)] 26))) := ⟨by repeat (first | (with_reducible first | exact HB.out | apply below_alloc | apply pw_below_drewN | apply below_drew1) | exact HB.out)⟩
      replace RQ := Aside0.mk (Kd.R_alloc RQ.out (.cells #[.int .i64 (20 + y / 7 % 28), .int .u8 (1 + y % 7)] 26))
      refine hK.out _ _ ?_
      clear hK K
      refine norm_ (a' := ?_) ?_ ?_
      rotate_left
      · show Act.put _ (some 51) _ = _
        simp only [Act.put, List.setIfInBounds_toArray, List.set_cons_zero, List.set_cons_succ, i64_w, i32_w]
        rfl
      refine last_ (i := 17) (N := some 52) #[true, true, true, true, true, true, true, true, true, true, true, true, true, true, true, true, true, true, false] rfl rfl (by kernel_rfl) (by decide) (fun K hK => ?_)
      refine Kd.R_append_rows_step k26 (Rr := k26.K (wd.alloc (.cells #[.int .i64 (20 + y / 7 % 28), .int .u8 (1 + y % 7)] 26))) (w0 := w) w.heap.size ?hw1 (.tmp 35) (.tmp 51) 31 26 (.agg #[.int .i64 0, .int .u8 0]) 16 ?ho1 Try.underlying31 infoPulse rfl (by decide) (by decide) (vq) (qs pl i) ([⟨20 + y / 7 % 28, 1 + y % 7⟩]) (some ⟨b51, 0, none⟩) (1) (1) (fun _ => True) (fun _ => False) ?hs1 ?hx1 ?aO1 ?aR1 ?aKM1 (fun _ hk => hk.elim) (fun _ _ => trivial) ?aB1 ?aS1 ?aL1 ?_
      case hw1 => rfl
      case ho1 => rfl
      case hs1 => rfl
      case hx1 => rfl
      case aO1 => exact RQ.out
      case aR1 => exact C51.out
      case aKM1 => exact fun x cs h => by obtain rfl := k26_open h; exact k26_mkM _ _ _ x
      case aB1 => exact (by repeat (first | (with_reducible first | exact HB.out | apply below_alloc | apply pw_below_drewN | apply below_drew1) | exact HB.out))
      case aS1 => exact (below_size (by repeat (first | (with_reducible first | exact HB.out | apply below_alloc | apply pw_below_drewN | apply below_drew1) | exact HB.out)))
      case aL1 => have := hi64.out; have := qs_len pl i; simp; omega
      intro v52 w2 ho hb hg hat
      have R52 := Aside0.mk ho
      clear RQ HB hat hg C51
      have HB := Aside0.mk hb
      clear hb ho
      refine hK.out _ _ ?_
      clear hK K
      refine norm_ (a' := ?_) ?_ ?_
      rotate_left
      · show Act.put _ (some 52) _ = _
        simp only [Act.put, List.setIfInBounds_toArray, List.set_cons_zero, List.set_cons_succ, i64_w, i32_w]
        rfl
      refine pure_ (i := 18) (N := some 5) (v := ?_) (a' := ?_) #[true, true, true, true, true, true, true, true, true, true, true, true, true, true, true, true, true, true, true] rfl rfl (by kernel_rfl) (fun _ _ _ h => h) (Or.inl ⟨by rfl, ?_⟩) ?_ ?_
      rotate_left
      · intro w'
        go_simp
        with_reducible rfl
      rotate_left
      · simp only [Act.put, List.setIfInBounds_toArray, List.set_cons_zero, List.set_cons_succ, i64_w, i32_w]
        rfl
      refine done_ (by kernel_rfl) ?_

      go_wp2
      go_roundg g
      case measure => omega
      case rel => exact ⟨i + 1, _, rfl, by simp [u5], ⟨by have := hg1.out; have := hl3.out; omega⟩, ⟨by rw [← QN.out]; exact R52.out⟩, HB⟩
    · have hle : i ≤ 64 := by have := hg.out; omega
      by_cases hl1 : i < pl.length
      · have b0 : decide ((i : Int) < (pl.length : Int)) = true := decide_eq_true (by omega)
        have b0' : decide (i < pl.length) = true := decide_eq_true hl1
        have b1 : decide ((i : Int) < 64) = false := decide_eq_false (by omega)
        have b1' : decide (i < 64) = false := decide_eq_false (by omega)
        clear hlt hl1
        as_aux_lemma =>
        have hV2 := Aside0.mk (hV.out i)
        have hLQ := Aside0.mk (show (qs pl i).length ≤ 64 by have := qs_len pl i; have := hg.out; omega)
        clear hV hY hg
        generalize qs pl i = Q at RQ hV2 hLQ
        obtain ⟨AQ, cQ, rfl⟩ := Kd.R_slice RQ.out
        go_wp2_with (first | (at_make; refine Kd.R_make (Kd.int .u16) (w0 := w) w.heap.size 23 rfl (N := 53) rfl 44 (.const (.int .i64 48)) (.const (.int .i64 48)) rfl 48 rfl rfl Try.underlying44 (.int .u16 0) 2 infoWord rfl (by decide) (by decide) 0 (ok := fun _ => True) (okp := fun _ => True) ?hzero (fun _ _ => trivial) trivial (by decide) ?hl ?hHB ?hbase ?_; (case hzero => rfl); (case hl => decide); (case hHB => exact (by repeat (first | (with_reducible first | exact HB.out | apply below_alloc | apply pw_below_drewN | apply below_drew1) | exact HB.out))); (case hbase => exact below_size (by repeat (first | (with_reducible first | exact HB.out | apply below_alloc | apply pw_below_drewN | apply below_drew1) | exact HB.out))); intro v6 w6 hR hb6 hg hat; have hbW := pw_below_grown (Below.refl _ _) none (Nat.le_refl _) hg (fun k hk => by cases hk); obtain ⟨ge, ke, rfl, Oe, hfe⟩ := OW.of hR rfl (by decide) hat; replace Oe := Aside0.mk Oe; skip; replace RQ := Aside0.mk (Kd.R_below RQ.out hbW); clear HB hR hg hat hbW; have HB := Aside0.mk hb6; clear hb6) | (at_make; refine Kd.R_make (Kd.int .u16) (w0 := w) w.heap.size 23 rfl (N := 54) rfl 44 (.const (.int .i64 48)) (.const (.int .i64 48)) rfl 48 rfl rfl Try.underlying44 (.int .u16 0) 2 infoWord rfl (by decide) (by decide) 0 (ok := fun _ => True) (okp := fun _ => True) ?hzero (fun _ _ => trivial) trivial (by decide) ?hl ?hHB ?hbase ?_; (case hzero => rfl); (case hl => decide); (case hHB => exact (by repeat (first | (with_reducible first | exact HB.out | apply below_alloc | apply pw_below_drewN | apply below_drew1) | exact HB.out))); (case hbase => exact below_size (by repeat (first | (with_reducible first | exact HB.out | apply below_alloc | apply pw_below_drewN | apply below_drew1) | exact HB.out))); intro v6 w6 hR hb6 hg hat; have hbW := pw_below_grown (Below.refl _ _) none (Nat.le_refl _) hg (fun k hk => by cases hk); obtain ⟨gw, kw, rfl, Ow, hfw⟩ := OW.of hR rfl (by decide) hat; replace Ow := Aside0.mk Ow; have hne : ge ≠ gw := (by have h1 := Oe.out.2.2.2.1; have h2 := hfw; omega); replace Oe := Aside0.mk (Oe.out.below hbW); replace RQ := Aside0.mk (Kd.R_below RQ.out hbW); clear HB hR hg hat hbW; have HB := Aside0.mk hb6; clear hb6))
        have xr := Aside0.mk (show 0 ≤ x % 32768 ∧ x % 32768 < 65536 by omega)
        have t0 : Int.tmod x 32768 = x % 32768 := Int.tmod_eq_emod_of_nonneg x0
        obtain ⟨u, hu⟩ : ∃ u, x % 32768 = u := ⟨_, rfl⟩
        rw [hu] at t0 xr
        clear hu
        go_loopg [9] 28 (fun g v9 w' => ∃ (i : Int) (eL wL : List Int), v9 = .int .i64 i ∧ Aside0 (20 ≤ i ∧ i + g = 48) ∧ Aside0 (ST u Q i eL wL) ∧ Aside0 (OW .u16 23 w' w.heap.size ge 48 ke eL) ∧ Aside0 (OW .u16 23 w' w.heap.size gw 48 kw wL) ∧ Aside0 (Kd.R k26 26 w' w.heap.size (fun _ => True) (.slice AQ Q.length cQ) Q) ∧ Aside0 (Below w.heap.size w w'))
        case atStart => exact ⟨20, _, _, rfl, ⟨by decide, by decide⟩, ⟨ST_start u Q⟩, Oe, Ow, RQ, HB⟩
        case round =>
          as_aux_lemma =>
          clear Oe Ow RQ HB
          obtain ⟨i, eL, wL, rfl, hg, hST, OE, OV, RQ, HB⟩ := hrel
          by_cases hlt : i < 48
          · obtain ⟨g, rfl⟩ : ∃ g, gk = g + 1 := ⟨gk - 1, by have := hg.out; omega⟩
            have b2 : decide (i < 48) = true := decide_eq_true hlt
            have i0 : 0 ≤ i := by have := hg.out; omega
            have OE0 := Aside0.mk OE.out.1
            have OV0 := Aside0.mk OV.out.1
            obtain ⟨hx, hxf⟩ := OE.out.cell i i0 hlt
            obtain ⟨hv, hvf⟩ := OV.out.cell i i0 hlt
            obtain ⟨hw, hwf⟩ := (OV.out.far hne i.toNat (.int .u16 u)).cell i i0 hlt
            have q0 := eq_true i0
            have q1 := eq_true hlt
            go_wp2
            clear hx hxf hv hvf hw hwf
            go_loopg [10] Q.length (fun g v10 w' => ∃ (k : Nat) (y : Int), v10 = .int .i64 (k : Int) ∧ Aside0 (k + g = Q.length) ∧ Aside0 (fo i u (Q.take k) = y) ∧ Aside0 (OW .u16 23 w' w.heap.size ge 48 ke (eL.set i.toNat u)) ∧ Aside0 (OW .u16 23 w' w.heap.size gw 48 kw (wL.set i.toNat y)) ∧ Aside0 (Kd.R k26 26 w' w.heap.size (fun _ => True) (.slice AQ Q.length cQ) Q) ∧ Aside0 (Below w.heap.size w w'))
            case atStart => exact ⟨0, u, rfl, ⟨by omega⟩, ⟨rfl⟩, ⟨(OE.out.put i u).far (fun e => hne e.symm) _ _⟩, ⟨(OV.out.far hne _ _).put i u⟩, ⟨(OV.out.far hne _ _).R_over (OE.out.R_over RQ.out (by decide) _ _) (by decide) _ _⟩, ⟨below_set (below_set HB.out OE.out.2.2.1) OV.out.2.2.1⟩⟩
            case round =>
              as_aux_lemma =>
              have hg1 := hg
              clear hg OE OV RQ HB
              obtain ⟨k, y, rfl, hg, hy, OE, OV, RQ, HB⟩ := hrel
              by_cases hkt : k < Q.length
              · obtain ⟨g', rfl⟩ : ∃ g', gk = g' + 1 := ⟨gk - 1, by have := hg.out; omega⟩
                have b3 : decide ((k : Int) < (Q.length : Int)) = true := decide_eq_true (by omega)
                have b3' : decide (k < Q.length) = true := decide_eq_true hkt
                obtain ⟨aq, eA, hq0, hq1⟩ := at_T26 (Kd.R_reads' RQ.out).2.2 (k : Int) (by omega) (by omega)
                cases eA
                rw [Int.toNat_natCast] at hq0 hq1
                have q2 := eq_true (show (0 : Int) ≤ (k : Int) by omega)
                have q3 := eq_true (show (k : Int) < (Q.length : Int) by omega)
                have q4 := eq_true hkt
                have u6 : wrap64 ((k : Int) + 1) = (k : Int) + 1 := w64 (by omega) (by have := hLQ.out; omega)
                have FN := Lib.hid (fo_next i u Q k hkt)
                rw [hy.out] at FN
                have yr := Aside0.mk (fo_range i _ u xr.out (VQ_take hV2.out k))
                rw [hy.out] at yr
                obtain ⟨p0, hp0⟩ : ∃ p, (rd_T26 Q (k : Int)).f0 = p := ⟨_, rfl⟩
                obtain ⟨p1, hp1⟩ : ∃ p, (rd_T26 Q (k : Int)).f1 = p := ⟨_, rfl⟩
                rw [hp0] at hq0 FN
                rw [hp1] at hq1 FN
                clear hp0 hp1
                by_cases hpi : p0 = i
                · have b4 : (p0 == i) = true := by rw [beq_iff_eq]; exact hpi
                  rw [if_pos hpi] at FN
                  have KA := Lib.hid (Apply_c y p1 yr.out.1 yr.out.2)
                  generalize apN (y % 32768) p1 = y' at KA FN
                  generalize apS (y % 32768) p1 = s' at KA
                  generalize apE p1 = e' at KA
                  clear hpi
                  obtain ⟨eL', heL'⟩ : ∃ z, eL.set i.toNat u = z := ⟨_, rfl⟩
                  obtain ⟨wL', hwL'⟩ : ∃ z, wL.set i.toNat y = z := ⟨_, rfl⟩
                  rw [heL'] at OE
                  rw [hwL'] at OV
                  obtain ⟨hv, hvf⟩ := OV.out.cell i i0 hlt
                  rw [← hwL', Own.rd_set OV0.out i y i0 hlt i i0, if_pos rfl] at hv
                  replace heL' := Lib.hid heL'
                  replace hwL' := Lib.hid hwL'
                  clear hvf
                  go_wp2
                  refine start_ (n := 17) (S := fun w' => w'.cell? ⟨gw, i.toNat, none⟩ = some (.int .u16 y) ∧ w'.cell? ⟨(aq.add (k * 2)).block, (aq.add (k * 2)).off + 1, none⟩ = some (.int .u8 p1)) (ds := []) #[false, false, false, false, false, false, false, false, false, false, false, false, false, false, false, false, false] (by kernel_rfl) rfl rfl ⟨hv, hq1⟩ (fun hHeld => ?_)
                  replace OE : Aside0 (OW .u16 23 wr.drew w.heap.size ge 48 ke eL') := ⟨OE.out.drew⟩
                  replace OV : Aside0 (OW .u16 23 wr.drew w.heap.size gw 48 kw wL') := ⟨OV.out.drew⟩
                  replace RQ : Aside0 (Kd.R k26 26 wr.drew w.heap.size (fun _ => True) (.slice (some aq) Q.length cQ) Q) := ⟨Kd.R_drew RQ.out⟩
                  replace HB : Aside0 (Below w.heap.size w wr.drew) := ⟨by repeat (first | (with_reducible first | exact HB.out | apply below_alloc | apply pw_below_drewN | apply below_drew1) | exact HB.out)⟩
                  change wr.drew.cell? _ = _ at hv hq1
                  generalize wr.drew = wd at OE OV RQ HB hv hq1 hHeld ⊢
                  refine pure_ (i := 0) (N := some 83) (v := ?_) (a' := ?_) #[true, false, false, false, false, false, false, false, false, false, false, false, false, false, false, false, false] rfl rfl (by kernel_rfl) (fun _ _ _ h => h) (Or.inl ⟨by rfl, ?_⟩) ?_ ?_
                  rotate_left
                  · intro w'
                    go_simp
                    with_reducible rfl
                  rotate_left
                  · simp only [Act.put, List.setIfInBounds_toArray, List.set_cons_zero, List.set_cons_succ, i64_w, i32_w]
                    rfl
                  refine pure_ (i := 1) (N := some 84) (v := ?_) (a' := ?_) #[true, true, false, false, false, false, false, false, false, false, false, false, false, false, false, false, false] rfl rfl (by kernel_rfl) (fun _ _ _ h => h) (Or.inl ⟨by rfl, ?_⟩) ?_ ?_
                  rotate_left
                  · intro w'
                    go_simp
                    with_reducible rfl
                  rotate_left
                  · simp only [Act.put, List.setIfInBounds_toArray, List.set_cons_zero, List.set_cons_succ, i64_w, i32_w]
                    rfl
                  refine pure_ (i := 2) (N := some 85) (v := ?_) (a' := ?_) #[true, true, true, false, false, false, false, false, false, false, false, false, false, false, false, false, false] rfl rfl (by kernel_rfl) (fun _ _ _ h => h) (Or.inl ⟨by rfl, ?_⟩) ?_ ?_
                  rotate_left
                  · intro w'
                    go_simp
                    with_reducible rfl
                  rotate_left
                  · simp only [Act.put, List.setIfInBounds_toArray, List.set_cons_zero, List.set_cons_succ, i64_w, i32_w]
                    rfl
                  refine pure_ (i := 4) (N := some 87) (v := ?_) (a' := ?_) #[true, true, true, false, true, false, false, false, false, false, false, false, false, false, false, false, false] rfl rfl (by kernel_rfl) (fun _ _ _ h => h) (Or.inl ⟨by rfl, ?_⟩) ?_ ?_
                  rotate_left
                  · intro w'
                    go_simp
                    with_reducible rfl
                  rotate_left
                  · simp only [Act.put, List.setIfInBounds_toArray, List.set_cons_zero, List.set_cons_succ, i64_w, i32_w]
                    rfl
                  refine pure_ (i := 5) (N := some 88) (v := ?_) (a' := ?_) #[true, true, true, false, true, true, false, false, false, false, false, false, false, false, false, false, false] rfl rfl (by kernel_rfl) (fun _ _ _ h => h) (Or.inl ⟨by rfl, ?_⟩) ?_ ?_
                  rotate_left
                  · intro w'
                    go_simp
                    with_reducible rfl
                  rotate_left
                  · simp only [Act.put, List.setIfInBounds_toArray, List.set_cons_zero, List.set_cons_succ, i64_w, i32_w]
                    rfl
                  refine pure_ (i := 6) (N := some 89) (v := ?_) (a' := ?_) #[true, true, true, false, true, true, true, false, false, false, false, false, false, false, false, false, false] rfl rfl (by kernel_rfl) (fun _ _ _ h => h) (Or.inl ⟨by rfl, ?_⟩) ?_ ?_
                  rotate_left
                  · intro w'
                    go_simp
                    with_reducible rfl
                  rotate_left
                  · simp only [Act.put, List.setIfInBounds_toArray, List.set_cons_zero, List.set_cons_succ, i64_w, i32_w]
                    rfl
                  refine pure_ (i := 7) (N := some 90) (v := ?_) (a' := ?_) #[true, true, true, false, true, true, true, true, false, false, false, false, false, false, false, false, false] rfl rfl (by kernel_rfl) (fun _ _ _ h => h) (Or.inl ⟨by rfl, ?_⟩) ?_ ?_
                  rotate_left
                  · intro w'
                    go_simp
                    with_reducible rfl
                  rotate_left
                  · simp only [Act.put, List.setIfInBounds_toArray, List.set_cons_zero, List.set_cons_succ, i64_w, i32_w]
                    rfl
                  refine take_ (i := 3) (N := some 86) (v := ?_) (a' := ?_) #[true, true, true, true, true, true, true, true, false, false, false, false, false, false, false, false, false] rfl rfl (by kernel_rfl) (fun _ _ _ h => h) (Or.inl ⟨by rfl, ?_⟩) hHeld ?_ ?_
                  rotate_left
                  · rintro w' ⟨s0, s1⟩
                    go_simp
                    with_reducible rfl
                  rotate_left
                  · simp only [Act.put, List.setIfInBounds_toArray, List.set_cons_zero, List.set_cons_succ, i64_w, i32_w]
                    rfl
                  refine take_ (i := 8) (N := some 91) (v := ?_) (a' := ?_) #[true, true, true, true, true, true, true, true, true, false, false, false, false, false, false, false, false] rfl rfl (by kernel_rfl) (fun _ _ _ h => h) (Or.inl ⟨by rfl, ?_⟩) hHeld ?_ ?_
                  rotate_left
                  · rintro w' ⟨s0, s1⟩
                    go_simp
                    with_reducible rfl
                  rotate_left
                  · simp only [Act.put, List.setIfInBounds_toArray, List.set_cons_zero, List.set_cons_succ, i64_w, i32_w]
                    rfl
                  refine one_ (i := 9) (N := some 92) #[true, true, true, true, true, true, true, true, true, true, false, false, false, false, false, false, false] rfl rfl (by kernel_rfl) (by decide) (fun K hK => ?_)
                  refine goes_ Try.func11 (by kernel_rfl) rfl #[.int .u16 y, .int .u8 p1] (by rfl) rfl rfl (by simp only [List.map_toArray, List.map_cons, List.map_nil]; rfl) ?_
                  with_reducible refine (KA.out _).mono ?_
                  rintro e w3 ⟨rfl, hbz⟩
                  refine ⟨_, rfl, ?_⟩
                  replace hv := (hbz.cell (World.block_lt_of_cell? _ _ hv)).trans hv
                  replace hq1 := (hbz.cell (World.block_lt_of_cell? _ _ hq1)).trans hq1
                  replace OE := Aside0.mk (OE.out.below hbz)
                  replace OV := Aside0.mk (OV.out.below hbz)
                  replace RQ := Aside0.mk (Kd.R_below RQ.out hbz)
                  have HBn := Aside0.mk (below_step (by repeat (first | (with_reducible first | exact HB.out | apply below_alloc | apply pw_below_drewN | apply below_drew1) | exact HB.out)) hbz)
                  clear HB hbz
                  have HB := HBn
                  clear HBn
                  refine hK.out _ _ ⟨hv, hq1⟩ (fun hHeld => ?_)
                  clear hK K
                  refine norm_ (a' := ?_) ?_ ?_
                  rotate_left
                  · show Act.put _ (some 92) _ = _
                    simp only [Act.put, List.setIfInBounds_toArray, List.set_cons_zero, List.set_cons_succ, i64_w, i32_w]
                    rfl
                  refine pure_ (i := 10) (N := some 82) (v := ?_) (a' := ?_) #[true, true, true, true, true, true, true, true, true, true, true, false, false, false, false, false, false] rfl rfl (by kernel_rfl) (fun _ _ _ h => h) (Or.inl ⟨by rfl, ?_⟩) ?_ ?_
                  rotate_left
                  · intro w'
                    go_simp
                    with_reducible rfl
                  rotate_left
                  · simp only [Act.put, List.setIfInBounds_toArray, List.set_cons_zero, List.set_cons_succ, i64_w, i32_w]
                    rfl
                  refine pure_ (i := 11) (N := some 93) (v := ?_) (a' := ?_) #[true, true, true, true, true, true, true, true, true, true, true, true, false, false, false, false, false] rfl rfl (by kernel_rfl) (fun _ _ _ h => h) (Or.inl ⟨by rfl, ?_⟩) ?_ ?_
                  rotate_left
                  · intro w'
                    go_simp
                    with_reducible rfl
                  rotate_left
                  · simp only [Act.put, List.setIfInBounds_toArray, List.set_cons_zero, List.set_cons_succ, i64_w, i32_w]
                    rfl
                  refine pure_ (i := 12) (N := some 94) (v := ?_) (a' := ?_) #[true, true, true, true, true, true, true, true, true, true, true, true, true, false, false, false, false] rfl rfl (by kernel_rfl) (fun _ _ _ h => h) (Or.inl ⟨by rfl, ?_⟩) ?_ ?_
                  rotate_left
                  · intro w'
                    go_simp
                    with_reducible rfl
                  rotate_left
                  · simp only [Act.put, List.setIfInBounds_toArray, List.set_cons_zero, List.set_cons_succ, i64_w, i32_w]
                    rfl
                  refine pure_ (i := 13) (N := some 95) (v := ?_) (a' := ?_) #[true, true, true, true, true, true, true, true, true, true, true, true, true, true, false, false, false] rfl rfl (by kernel_rfl) (fun _ _ _ h => h) (Or.inl ⟨by rfl, ?_⟩) ?_ ?_
                  rotate_left
                  · intro w'
                    go_simp
                    with_reducible rfl
                  rotate_left
                  · simp only [Act.put, List.setIfInBounds_toArray, List.set_cons_zero, List.set_cons_succ, i64_w, i32_w]
                    rfl
                  refine pure_ (i := 14) (N := some 11) (v := ?_) (a' := ?_) #[true, true, true, true, true, true, true, true, true, true, true, true, true, true, true, false, false] rfl rfl (by kernel_rfl) (fun _ _ _ h => h) (Or.inl ⟨by rfl, ?_⟩) ?_ ?_
                  rotate_left
                  · intro w'
                    go_simp
                    with_reducible rfl
                  rotate_left
                  · simp only [Act.put, List.setIfInBounds_toArray, List.set_cons_zero, List.set_cons_succ, i64_w, i32_w]
                    rfl
                  refine pure_ (i := 15) (N := some 12) (v := ?_) (a' := ?_) #[true, true, true, true, true, true, true, true, true, true, true, true, true, true, true, true, false] rfl rfl (by kernel_rfl) (fun _ _ _ h => h) (Or.inl ⟨by rfl, ?_⟩) ?_ ?_
                  rotate_left
                  · intro w'
                    go_simp
                    with_reducible rfl
                  rotate_left
                  · simp only [Act.put, List.setIfInBounds_toArray, List.set_cons_zero, List.set_cons_succ, i64_w, i32_w]
                    rfl
                  refine pure_ (i := 16) (N := some 13) (v := ?_) (a' := ?_) #[true, true, true, true, true, true, true, true, true, true, true, true, true, true, true, true, true] rfl rfl (by kernel_rfl) (fun _ _ _ h => h) (Or.inl ⟨by rfl, ?_⟩) ?_ ?_
                  rotate_left
                  · intro w'
                    go_simp
                    with_reducible rfl
                  rotate_left
                  · simp only [Act.put, List.setIfInBounds_toArray, List.set_cons_zero, List.set_cons_succ, i64_w, i32_w]
                    rfl
                  refine done_ (by kernel_rfl) ?_

                  obtain ⟨hv2, hvf⟩ := OV.out.cell i i0 hlt
                  clear hv hq1 KA hq0
                  go_wp2
                  go_roundg g'
                  case measure => omega
                  case rel => exact ⟨k + 1, y', by simp [u6], ⟨gstep hg.out⟩, ⟨FN.out⟩, ⟨by rw [heL'.out]; exact OE.out.far (fun e => hne e.symm) _ _⟩, ⟨by have := OV.out.put i y'; rw [← hwL'.out, List.set_set] at this; exact this⟩, ⟨OV.out.R_over RQ.out (by decide) _ _⟩, ⟨below_set HB.out OV.out.2.2.1⟩⟩
                · have b4 : (p0 == i) = false := by rw [beq_eq_false_iff_ne]; exact hpi
                  rw [if_neg hpi] at FN
                  clear hpi
                  go_wp2
                  go_roundg g'
                  case measure => omega
                  case rel => exact ⟨k + 1, y, by simp [u6], ⟨gstep hg.out⟩, ⟨FN.out⟩, OE, OV, RQ, HB⟩
              · have b3 : decide ((k : Int) < (Q.length : Int)) = false := decide_eq_false (by omega)
                have b3' : decide (k < Q.length) = false := decide_eq_false hkt
                have hF := Lib.hid (show fo i u Q = y by rw [← hy.out, List.take_of_length_le (by omega)])
                clear hg
                go_wp2
                go_roundg g
                case measure => omega
                case rel => exact ⟨i + 1, _, _, rfl, ⟨by have := hg1.out; omega, by have := hg1.out; omega⟩, ⟨ST_next hST.out OE0.out OV0.out i0 hlt xr.out hF.out⟩, OE, OV, RQ, HB⟩
          · have b2 : decide (i < 48) = false := decide_eq_false hlt
            have hI := Aside0.mk (INV_start hST.out (by have := hg.out; omega) hV2.out)
            have hL48 := Aside0.mk OE.out.1
            clear hg hST
            go_wp2
            go_loopg [14, 15] Q.length (fun g v14 v15 w' => ∃ (la : Int) (A : Option Addr) (n c : Nat) (l : List S26) (eL : List Int), v14 = .int .i64 la ∧ v15 = .slice A n c ∧ Aside0 (l.length = n ∧ g = n ∧ n ≤ 64) ∧ Aside0 (INV la l eL wL) ∧ Aside0 (OW .u16 23 w' w.heap.size ge 48 ke eL) ∧ Aside0 (OW .u16 23 w' w.heap.size gw 48 kw wL) ∧ Aside0 (Kd.R k26 26 w' w.heap.size (fun _ => True) (.slice A n c) l) ∧ Aside0 (Below w.heap.size w w'))
            case atStart => exact ⟨0, AQ, Q.length, cQ, Q, eL, rfl, rfl, ⟨rfl, rfl, hLQ.out⟩, hI, OE, OV, RQ, HB⟩
            case round =>
              as_aux_lemma =>
              clear OE OV RQ HB hI hL48
              obtain ⟨la, A, n, c, l, eL, rfl, rfl, hn, hI, OE, OV, RL, HB⟩ := hrel
              by_cases hp : 0 < n
              · have IN := INV_next hI.out (by have := hn.out; omega) OE.out.1
                have hr := hI.out.2.2.2
                have hc := (Kd.R_reads' RL.out).2.1
                have RCx := Aside0.mk (show Kd.C k26 wr A n l by have h := (Kd.R_reads' RL.out).2.2; rw [hn.out.1] at h; exact h)
                have SV := Lib.hid fun (w : World) h hE => Serve_c A c l (some ⟨ge, 0, none⟩) ke 48 eL w n hn.out.1 OE.out.1 h hc (by have := hn.out; omega) hE (fun i i0 i1 => hr i i0 (by have := OE.out.1; omega))
                rw [IN.1] at SV
                obtain ⟨g, rfl⟩ : ∃ g, gk = g + 1 := ⟨gk - 1, by have := hn.out; omega⟩
                generalize sA l eL = cA at SV IN
                generalize sW l eL = cW at SV IN
                generalize sS l eL = sg at SV IN
                generalize sL l eL = l' at SV IN
                obtain ⟨n', hn'⟩ : ∃ n', l'.length = n' := ⟨_, rfl⟩
                have hA0 := Aside0.mk (show 0 ≤ cA by have := IN.2.1; omega)
                have hA1 := Aside0.mk (show cA < 48 by have := IN.2.1; omega)
                have hnn := Aside0.mk (show n' + 1 = n ∧ n' = g by have := hn.out; have := IN.2.2.1; omega)
                have b2 : decide (0 < (n : Int)) = true := decide_eq_true (by omega)
                have b2' : decide (0 < n) = true := decide_eq_true hp
                have t1 : decide (cA < la) = false := decide_eq_false (by have := IN.2.1; omega)
                have t2 : decide (47 < cA) = false := decide_eq_false (by have := IN.2.1; omega)
                have t3 : wrap64 ((n : Int) - 1) = (n' : Int) := by rw [w64 (by omega) (by have := hn.out; omega)]; have := hnn.out; omega
                have t4 : ((n' : Int) != (n' : Int)) = false := bne_self_eq_false _
                have hIN := Aside0.mk IN.2.2.2
                replace hn' := Lib.hid hn'
                clear IN hr hc hp hI
                go_upto_region 22 with (go_at_call 19; (with_reducible refine at_args #[.slice A n c, .slice (some ⟨ge, 0, none⟩) 48 ke] ?_); (with_reducible refine (SV.out _ RCx.out OE.out.C).mono ?_); rintro e w12 ⟨vs, rfl, hRs, hbz⟩; obtain ⟨As, cs, rfl⟩ := Kd.R_slice hRs; rw [hn'.out] at hRs ⊢; have RL2 := Aside0.mk (Kd.R_lower hRs (below_size HB.out)); clear RL hRs RCx; have RL := RL2; clear RL2; replace OE := Aside0.mk (OE.out.below hbz); replace OV := Aside0.mk (OV.out.below hbz); have HBn := Aside0.mk (below_step (by repeat (first | (with_reducible first | exact HB.out | apply below_alloc | apply pw_below_drewN | apply below_drew1) | exact HB.out)) hbz); clear HB hbz; have HB := HBn; clear HBn)
                clear SV
                have z0 : (w12.alloc (.cells #[.int .i64 cA, .int .u16 cW] 46)).cell? ⟨w12.heap.size, 0, none⟩ = some (.int .i64 cA) := by rw [World.cell?_alloc_mark]; rfl
                have z1 : (w12.alloc (.cells #[.int .i64 cA, .int .u16 cW] 46)).cell? ⟨w12.heap.size, 1, none⟩ = some (.int .u16 cW) := by rw [World.cell?_alloc_mark]; rfl
                have hnb := Aside0.mk (show ge ≠ w12.heap.size by have := OE.out.2.2.2.1; omega)
                have OE2 := Aside0.mk (OE.out.alloc (.cells #[.int .i64 cA, .int .u16 cW] 46))
                have OV2 := Aside0.mk (OV.out.alloc (.cells #[.int .i64 cA, .int .u16 cW] 46))
                have RL2 := Aside0.mk (Kd.R_alloc RL.out (.cells #[.int .i64 cA, .int .u16 cW] 46))
                have HB2 := Aside0.mk (below_alloc HB.out (.cells #[.int .i64 cA, .int .u16 cW] 46))
                clear OE OV RL HB
                generalize w12.alloc (.cells #[.int .i64 cA, .int .u16 cW] 46) = wb at z0 z1 OE2 OV2 RL2 HB2 ⊢
                obtain ⟨hb_, hhb⟩ : ∃ x, w12.heap.size = x := ⟨_, rfl⟩
                rw [hhb] at z0 z1 hnb ⊢
                clear hhb
                have OE := OE2
                have OV := OV2
                have RL := RL2
                have HB := HB2
                clear OE2 OV2 RL2 HB2
                go_upto_region 24 with fail
                have q5 := eq_true hA0.out
                have q6 := eq_true hA1.out
                refine start_ (n := 10) (S := fun w' => w'.cell? ⟨hb_, 0, none⟩ = some (.int .i64 cA) ∧ w'.cell? ⟨hb_, 1, none⟩ = some (.int .u16 cW)) (ds := []) #[false, false, false, false, false, false, false, false, false, false] (by kernel_rfl) rfl rfl ⟨z0, z1⟩ (fun hHeld => ?_)
                replace OE : Aside0 (OW .u16 23 wb.drew w.heap.size ge 48 ke eL) := ⟨OE.out.drew⟩
                replace OV : Aside0 (OW .u16 23 wb.drew w.heap.size gw 48 kw wL) := ⟨OV.out.drew⟩
                replace RL : Aside0 (Kd.R k26 26 wb.drew w.heap.size (fun _ => True) (.slice As n' cs) l') := ⟨Kd.R_drew RL.out⟩
                replace HB : Aside0 (Below w.heap.size w wb.drew) := ⟨by repeat (first | (with_reducible first | exact HB.out | apply below_alloc | apply pw_below_drewN | apply below_drew1) | exact HB.out)⟩
                change wb.drew.cell? _ = _ at z0 z1
                generalize wb.drew = wd at OE OV RL HB z0 z1 hHeld ⊢
                obtain ⟨se, sf⟩ := OE.out.cell cA hA0.out hA1.out
                refine pure_ (i := 0) (N := some 133) (v := ?_) (a' := ?_) #[true, false, false, false, false, false, false, false, false, false] rfl rfl (by kernel_rfl) (fun _ _ _ h => h) (Or.inl ⟨by rfl, ?_⟩) ?_ ?_
                rotate_left
                · intro w'
                  go_simp
                  with_reducible rfl
                rotate_left
                · simp only [Act.put, List.setIfInBounds_toArray, List.set_cons_zero, List.set_cons_succ, i64_w, i32_w]
                  rfl
                refine pure_ (i := 1) (N := some 134) (v := ?_) (a' := ?_) #[true, true, false, false, false, false, false, false, false, false] rfl rfl (by kernel_rfl) (fun _ _ _ h => h) (Or.inl ⟨by rfl, ?_⟩) ?_ ?_
                rotate_left
                · intro w'
                  go_simp
                  with_reducible rfl
                rotate_left
                · simp only [Act.put, List.setIfInBounds_toArray, List.set_cons_zero, List.set_cons_succ, i64_w, i32_w]
                  rfl
                refine pure_ (i := 3) (N := some 136) (v := ?_) (a' := ?_) #[true, true, false, true, false, false, false, false, false, false] rfl rfl (by kernel_rfl) (fun _ _ _ h => h) (Or.inl ⟨by rfl, ?_⟩) ?_ ?_
                rotate_left
                · intro w'
                  go_simp
                  with_reducible rfl
                rotate_left
                · simp only [Act.put, List.setIfInBounds_toArray, List.set_cons_zero, List.set_cons_succ, i64_w, i32_w]
                  rfl
                refine pure_ (i := 5) (N := some 138) (v := ?_) (a' := ?_) #[true, true, false, true, false, true, false, false, false, false] rfl rfl (by kernel_rfl) (fun _ _ _ h => h) (Or.inl ⟨by rfl, ?_⟩) ?_ ?_
                rotate_left
                · intro w'
                  go_simp
                  with_reducible rfl
                rotate_left
                · simp only [Act.put, List.setIfInBounds_toArray, List.set_cons_zero, List.set_cons_succ, i64_w, i32_w]
                  rfl
                refine take_ (i := 2) (N := some 135) (v := ?_) (a' := ?_) #[true, true, true, true, false, true, false, false, false, false] rfl rfl (by kernel_rfl) (fun _ _ _ h => h) (Or.inl ⟨by rfl, ?_⟩) hHeld ?_ ?_
                rotate_left
                · rintro w' ⟨s0, s1⟩
                  go_simp
                  with_reducible rfl
                rotate_left
                · simp only [Act.put, List.setIfInBounds_toArray, List.set_cons_zero, List.set_cons_succ, i64_w, i32_w]
                  rfl
                refine take_ (i := 4) (N := some 137) (v := ?_) (a' := ?_) #[true, true, true, true, true, true, false, false, false, false] rfl rfl (by kernel_rfl) (fun _ _ _ h => h) (Or.inl ⟨by rfl, ?_⟩) hHeld ?_ ?_
                rotate_left
                · rintro w' ⟨s0, s1⟩
                  go_simp
                  with_reducible rfl
                rotate_left
                · simp only [Act.put, List.setIfInBounds_toArray, List.set_cons_zero, List.set_cons_succ, i64_w, i32_w]
                  rfl
                refine pure_ (i := 7) (N := some 140) (v := ?_) (a' := ?_) #[true, true, true, true, true, true, false, true, false, false] rfl rfl (by kernel_rfl) (fun _ _ _ h => h) (Or.inl ⟨by rfl, ?_⟩) ?_ ?_
                rotate_left
                · intro w'
                  go_simp
                  with_reducible rfl
                rotate_left
                · simp only [Act.put, List.setIfInBounds_toArray, List.set_cons_zero, List.set_cons_succ, i64_w, i32_w]
                  rfl
                refine take_ (i := 6) (N := some 139) (v := ?_) (a' := ?_) #[true, true, true, true, true, true, true, true, false, false] rfl rfl (by kernel_rfl) (fun _ _ _ h => h) (Or.inl ⟨by rfl, ?_⟩) hHeld ?_ ?_
                rotate_left
                · rintro w' ⟨s0, s1⟩
                  go_simp
                  with_reducible rfl
                rotate_left
                · simp only [Act.put, List.setIfInBounds_toArray, List.set_cons_zero, List.set_cons_succ, i64_w, i32_w]
                  rfl
                refine one_ (i := 8) (N := none) #[true, true, true, true, true, true, true, true, true, false] rfl rfl (by kernel_rfl) (by decide) (fun K hK => ?_)
                refine skip_ (w1 := ?_) (by rfl) rfl ?_ ?_
                rotate_left
                · go_simp
                  rfl
                replace z0 := (World.cell?_setCell_far wd ⟨ge, cA.toNat, none⟩ ⟨hb_, 0, none⟩ (.int .u16 cW) hnb.out).trans z0
                replace z1 := (World.cell?_setCell_far wd ⟨ge, cA.toNat, none⟩ ⟨hb_, 1, none⟩ (.int .u16 cW) hnb.out).trans z1
                refine hK.out _ _ ⟨z0, z1⟩ (fun hHeld => ?_)
                clear hK K
                refine pure_ (i := 9) (N := some 14) (v := ?_) (a' := ?_) #[true, true, true, true, true, true, true, true, true, true] rfl rfl (by kernel_rfl) (fun _ _ _ h => h) (Or.inl ⟨by rfl, ?_⟩) ?_ ?_
                rotate_left
                · intro w'
                  go_simp
                  with_reducible rfl
                rotate_left
                · simp only [Act.put, List.setIfInBounds_toArray, List.set_cons_zero, List.set_cons_succ, i64_w, i32_w]
                  rfl
                refine done_ (by kernel_rfl) ?_

                go_wp2
                go_roundg g
                case measure => omega
                case rel => exact ⟨cA, As, n', cs, l', _, rfl, rfl, ⟨hn'.out, hnn.out.2.symm, by have := hn.out; have := hnn.out; omega⟩, hIN, ⟨OE.out.put cA cW⟩, ⟨OV.out.far hne _ _⟩, ⟨OE.out.R_over RL.out (by decide) _ _⟩, ⟨below_set HB.out OE.out.2.2.1⟩⟩
              · have b2 : decide (0 < (n : Int)) = false := decide_eq_false (by omega)
                have b2' : decide (0 < n) = false := decide_eq_false hp
                have hEQ := Aside0.mk (show ∀ j, 20 ≤ j → j < 48 → rd eL j = rd wL j by
                  have e : l = [] := List.eq_nil_of_length_eq_zero (by have := hn.out; omega)
                  have h := hI.out.2.2.1
                  rw [e] at h
                  exact fun j h1 h2 => h j h1 h2)
                have hRG := Aside0.mk hI.out.2.2.2
                clear hn hI hp RL
                go_wp2
                go_loopg [20] 28 (fun g v20 w' => ∃ i : Int, v20 = .int .i64 i ∧ Aside0 (20 ≤ i ∧ i + g = 48) ∧ Aside0 (OW .u16 23 w' w.heap.size ge 48 ke eL) ∧ Aside0 (OW .u16 23 w' w.heap.size gw 48 kw wL) ∧ Aside0 (Below w.heap.size w w'))
                case atStart => exact ⟨20, rfl, ⟨by decide, by decide⟩, OE, OV, HB⟩
                case round =>
                  clear OE OV HB
                  obtain ⟨i, rfl, hg, OE, OV, HB⟩ := hrel
                  by_cases hlt : i < 48
                  · obtain ⟨g, rfl⟩ : ∃ g, gk = g + 1 := ⟨gk - 1, by have := hg.out; omega⟩
                    have b5 : decide (i < 48) = true := decide_eq_true hlt
                    have i0 : 0 ≤ i := by have := hg.out; omega
                    have u7 : wrap64 (i + 1) = i + 1 := w64 (by omega) (by omega)
                    obtain ⟨hx, hxf⟩ := OE.out.cell i i0 hlt
                    obtain ⟨hv, hvf⟩ := OV.out.cell i i0 hlt
                    rw [hEQ.out i (by have := hg.out; omega) hlt] at hx
                    generalize rd wL i = y at hx hv
                    have b6 : (y != y) = false := bne_self_eq_false _
                    have q0 := eq_true i0
                    have q1 := eq_true hlt
                    clear hxf hvf
                    go_wp2
                    go_quiet (fail)
                    go_wp2
                    go_roundg g
                    case measure => omega
                    case rel => exact ⟨i + 1, by simp [u7], ⟨by have := hg.out; omega, by have := hg.out; omega⟩, ⟨by first | exact OE.out.drew | exact OE.out.drewN _ | exact OE.out⟩, ⟨by first | exact OV.out.drew | exact OV.out.drewN _ | exact OV.out⟩, ⟨by repeat (first | (with_reducible first | exact HB.out | apply below_alloc | apply pw_below_drewN | apply below_drew1) | exact HB.out)⟩⟩
                  · have b5 : decide (i < 48) = false := decide_eq_false hlt
                    have S0 := Lib.hid fun (w : World) hE => Serve_c none 0 [] (some ⟨ge, 0, none⟩) ke 48 eL w 0 rfl OE.out.1 ⟨rfl, Nat.zero_le _, fun h => absurd h (Nat.lt_irrefl 0)⟩ (Nat.le_refl _) (by decide) hE (fun i i0 i1 => hRG.out i i0 (by have := OE.out.1; omega))
                    rw [show sE [] eL = 14 by unfold sE; rfl] at S0
                    generalize sA [] eL = cA at S0
                    generalize sW [] eL = cW at S0
                    generalize sS [] eL = sg at S0
                    clear hg hlt
                    go_wp2_with (first | (go_at_call 19; (with_reducible refine at_args #[.slice none 0 0, .slice (some ⟨ge, 0, none⟩) 48 ke] ?_); (with_reducible refine (S0.out _ OE.out.C).mono ?_); rintro e w13 ⟨vs, rfl, hRs, hbz⟩; clear hRs; have HBn := Aside0.mk (below_step (by repeat (first | (with_reducible first | exact HB.out | apply below_alloc | apply pw_below_drewN | apply below_drew1) | exact HB.out)) hbz); clear HB hbz; have HB := HBn; clear HBn) | (go_at_call 16; (with_reducible refine at_args #[] ?_); (with_reducible refine (works_c _).mono ?_); rintro e w' ⟨rfl, hbw⟩; have HBn := Aside0.mk (below_step (by repeat (first | (with_reducible first | exact HB.out | apply below_alloc | apply pw_below_drewN | apply below_drew1) | exact HB.out)) hbw); clear HB hbw; have HB := HBn; clear HBn))
                    go_ret
                    exact ⟨rfl, by repeat (first | (with_reducible first | exact HB.out | apply below_alloc | apply pw_below_drewN | apply below_drew1) | exact HB.out)⟩

      · have b0 : decide ((i : Int) < (pl.length : Int)) = false := decide_eq_false (by omega)
        have b0' : decide (i < pl.length) = false := decide_eq_false hl1
        clear hlt hl1
        as_aux_lemma =>
        have hV2 := Aside0.mk (hV.out i)
        have hLQ := Aside0.mk (show (qs pl i).length ≤ 64 by have := qs_len pl i; have := hg.out; omega)
        clear hV hY hg
        generalize qs pl i = Q at RQ hV2 hLQ
        obtain ⟨AQ, cQ, rfl⟩ := Kd.R_slice RQ.out
        go_wp2_with (first | (at_make; refine Kd.R_make (Kd.int .u16) (w0 := w) w.heap.size 23 rfl (N := 53) rfl 44 (.const (.int .i64 48)) (.const (.int .i64 48)) rfl 48 rfl rfl Try.underlying44 (.int .u16 0) 2 infoWord rfl (by decide) (by decide) 0 (ok := fun _ => True) (okp := fun _ => True) ?hzero (fun _ _ => trivial) trivial (by decide) ?hl ?hHB ?hbase ?_; (case hzero => rfl); (case hl => decide); (case hHB => exact (by repeat (first | (with_reducible first | exact HB.out | apply below_alloc | apply pw_below_drewN | apply below_drew1) | exact HB.out))); (case hbase => exact below_size (by repeat (first | (with_reducible first | exact HB.out | apply below_alloc | apply pw_below_drewN | apply below_drew1) | exact HB.out))); intro v6 w6 hR hb6 hg hat; have hbW := pw_below_grown (Below.refl _ _) none (Nat.le_refl _) hg (fun k hk => by cases hk); obtain ⟨ge, ke, rfl, Oe, hfe⟩ := OW.of hR rfl (by decide) hat; replace Oe := Aside0.mk Oe; skip; replace RQ := Aside0.mk (Kd.R_below RQ.out hbW); clear HB hR hg hat hbW; have HB := Aside0.mk hb6; clear hb6) | (at_make; refine Kd.R_make (Kd.int .u16) (w0 := w) w.heap.size 23 rfl (N := 54) rfl 44 (.const (.int .i64 48)) (.const (.int .i64 48)) rfl 48 rfl rfl Try.underlying44 (.int .u16 0) 2 infoWord rfl (by decide) (by decide) 0 (ok := fun _ => True) (okp := fun _ => True) ?hzero (fun _ _ => trivial) trivial (by decide) ?hl ?hHB ?hbase ?_; (case hzero => rfl); (case hl => decide); (case hHB => exact (by repeat (first | (with_reducible first | exact HB.out | apply below_alloc | apply pw_below_drewN | apply below_drew1) | exact HB.out))); (case hbase => exact below_size (by repeat (first | (with_reducible first | exact HB.out | apply below_alloc | apply pw_below_drewN | apply below_drew1) | exact HB.out))); intro v6 w6 hR hb6 hg hat; have hbW := pw_below_grown (Below.refl _ _) none (Nat.le_refl _) hg (fun k hk => by cases hk); obtain ⟨gw, kw, rfl, Ow, hfw⟩ := OW.of hR rfl (by decide) hat; replace Ow := Aside0.mk Ow; have hne : ge ≠ gw := (by have h1 := Oe.out.2.2.2.1; have h2 := hfw; omega); replace Oe := Aside0.mk (Oe.out.below hbW); replace RQ := Aside0.mk (Kd.R_below RQ.out hbW); clear HB hR hg hat hbW; have HB := Aside0.mk hb6; clear hb6))
        have xr := Aside0.mk (show 0 ≤ x % 32768 ∧ x % 32768 < 65536 by omega)
        have t0 : Int.tmod x 32768 = x % 32768 := Int.tmod_eq_emod_of_nonneg x0
        obtain ⟨u, hu⟩ : ∃ u, x % 32768 = u := ⟨_, rfl⟩
        rw [hu] at t0 xr
        clear hu
        go_loopg [9] 28 (fun g v9 w' => ∃ (i : Int) (eL wL : List Int), v9 = .int .i64 i ∧ Aside0 (20 ≤ i ∧ i + g = 48) ∧ Aside0 (ST u Q i eL wL) ∧ Aside0 (OW .u16 23 w' w.heap.size ge 48 ke eL) ∧ Aside0 (OW .u16 23 w' w.heap.size gw 48 kw wL) ∧ Aside0 (Kd.R k26 26 w' w.heap.size (fun _ => True) (.slice AQ Q.length cQ) Q) ∧ Aside0 (Below w.heap.size w w'))
        case atStart => exact ⟨20, _, _, rfl, ⟨by decide, by decide⟩, ⟨ST_start u Q⟩, Oe, Ow, RQ, HB⟩
        case round =>
          as_aux_lemma =>
          clear Oe Ow RQ HB
          obtain ⟨i, eL, wL, rfl, hg, hST, OE, OV, RQ, HB⟩ := hrel
          by_cases hlt : i < 48
          · obtain ⟨g, rfl⟩ : ∃ g, gk = g + 1 := ⟨gk - 1, by have := hg.out; omega⟩
            have b2 : decide (i < 48) = true := decide_eq_true hlt
            have i0 : 0 ≤ i := by have := hg.out; omega
            have OE0 := Aside0.mk OE.out.1
            have OV0 := Aside0.mk OV.out.1
            obtain ⟨hx, hxf⟩ := OE.out.cell i i0 hlt
            obtain ⟨hv, hvf⟩ := OV.out.cell i i0 hlt
            obtain ⟨hw, hwf⟩ := (OV.out.far hne i.toNat (.int .u16 u)).cell i i0 hlt
            have q0 := eq_true i0
            have q1 := eq_true hlt
            go_wp2
            clear hx hxf hv hvf hw hwf
            go_loopg [10] Q.length (fun g v10 w' => ∃ (k : Nat) (y : Int), v10 = .int .i64 (k : Int) ∧ Aside0 (k + g = Q.length) ∧ Aside0 (fo i u (Q.take k) = y) ∧ Aside0 (OW .u16 23 w' w.heap.size ge 48 ke (eL.set i.toNat u)) ∧ Aside0 (OW .u16 23 w' w.heap.size gw 48 kw (wL.set i.toNat y)) ∧ Aside0 (Kd.R k26 26 w' w.heap.size (fun _ => True) (.slice AQ Q.length cQ) Q) ∧ Aside0 (Below w.heap.size w w'))
            case atStart => exact ⟨0, u, rfl, ⟨by omega⟩, ⟨rfl⟩, ⟨(OE.out.put i u).far (fun e => hne e.symm) _ _⟩, ⟨(OV.out.far hne _ _).put i u⟩, ⟨(OV.out.far hne _ _).R_over (OE.out.R_over RQ.out (by decide) _ _) (by decide) _ _⟩, ⟨below_set (below_set HB.out OE.out.2.2.1) OV.out.2.2.1⟩⟩
            case round =>
              as_aux_lemma =>
              have hg1 := hg
              clear hg OE OV RQ HB
              obtain ⟨k, y, rfl, hg, hy, OE, OV, RQ, HB⟩ := hrel
              by_cases hkt : k < Q.length
              · obtain ⟨g', rfl⟩ : ∃ g', gk = g' + 1 := ⟨gk - 1, by have := hg.out; omega⟩
                have b3 : decide ((k : Int) < (Q.length : Int)) = true := decide_eq_true (by omega)
                have b3' : decide (k < Q.length) = true := decide_eq_true hkt
                obtain ⟨aq, eA, hq0, hq1⟩ := at_T26 (Kd.R_reads' RQ.out).2.2 (k : Int) (by omega) (by omega)
                cases eA
                rw [Int.toNat_natCast] at hq0 hq1
                have q2 := eq_true (show (0 : Int) ≤ (k : Int) by omega)
                have q3 := eq_true (show (k : Int) < (Q.length : Int) by omega)
                have q4 := eq_true hkt
                have u6 : wrap64 ((k : Int) + 1) = (k : Int) + 1 := w64 (by omega) (by have := hLQ.out; omega)
                have FN := Lib.hid (fo_next i u Q k hkt)
                rw [hy.out] at FN
                have yr := Aside0.mk (fo_range i _ u xr.out (VQ_take hV2.out k))
                rw [hy.out] at yr
                obtain ⟨p0, hp0⟩ : ∃ p, (rd_T26 Q (k : Int)).f0 = p := ⟨_, rfl⟩
                obtain ⟨p1, hp1⟩ : ∃ p, (rd_T26 Q (k : Int)).f1 = p := ⟨_, rfl⟩
                rw [hp0] at hq0 FN
                rw [hp1] at hq1 FN
                clear hp0 hp1
                by_cases hpi : p0 = i
                · have b4 : (p0 == i) = true := by rw [beq_iff_eq]; exact hpi
                  rw [if_pos hpi] at FN
                  have KA := Lib.hid (Apply_c y p1 yr.out.1 yr.out.2)
                  generalize apN (y % 32768) p1 = y' at KA FN
                  generalize apS (y % 32768) p1 = s' at KA
                  generalize apE p1 = e' at KA
                  clear hpi
                  obtain ⟨eL', heL'⟩ : ∃ z, eL.set i.toNat u = z := ⟨_, rfl⟩
                  obtain ⟨wL', hwL'⟩ : ∃ z, wL.set i.toNat y = z := ⟨_, rfl⟩
                  rw [heL'] at OE
                  rw [hwL'] at OV
                  obtain ⟨hv, hvf⟩ := OV.out.cell i i0 hlt
                  rw [← hwL', Own.rd_set OV0.out i y i0 hlt i i0, if_pos rfl] at hv
                  replace heL' := Lib.hid heL'
                  replace hwL' := Lib.hid hwL'
                  clear hvf
                  go_wp2
                  refine start_ (n := 17) (S := fun w' => w'.cell? ⟨gw, i.toNat, none⟩ = some (.int .u16 y) ∧ w'.cell? ⟨(aq.add (k * 2)).block, (aq.add (k * 2)).off + 1, none⟩ = some (.int .u8 p1)) (ds := []) #[false, false, false, false, false, false, false, false, false, false, false, false, false, false, false, false, false] (by kernel_rfl) rfl rfl ⟨hv, hq1⟩ (fun hHeld => ?_)
                  replace OE : Aside0 (OW .u16 23 wr.drew w.heap.size ge 48 ke eL') := ⟨OE.out.drew⟩
                  replace OV : Aside0 (OW .u16 23 wr.drew w.heap.size gw 48 kw wL') := ⟨OV.out.drew⟩
                  replace RQ : Aside0 (Kd.R k26 26 wr.drew w.heap.size (fun _ => True) (.slice (some aq) Q.length cQ) Q) := ⟨Kd.R_drew RQ.out⟩
                  replace HB : Aside0 (Below w.heap.size w wr.drew) := ⟨by repeat (first | (with_reducible first | exact HB.out | apply below_alloc | apply pw_below_drewN | apply below_drew1) | exact HB.out)⟩
                  change wr.drew.cell? _ = _ at hv hq1
                  generalize wr.drew = wd at OE OV RQ HB hv hq1 hHeld ⊢
                  refine pure_ (i := 0) (N := some 83) (v := ?_) (a' := ?_) #[true, false, false, false, false, false, false, false, false, false, false, false, false, false, false, false, false] rfl rfl (by kernel_rfl) (fun _ _ _ h => h) (Or.inl ⟨by rfl, ?_⟩) ?_ ?_
                  rotate_left
                  · intro w'
                    go_simp
                    with_reducible rfl
                  rotate_left
                  · simp only [Act.put, List.setIfInBounds_toArray, List.set_cons_zero, List.set_cons_succ, i64_w, i32_w]
                    rfl
                  refine pure_ (i := 1) (N := some 84) (v := ?_) (a' := ?_) #[true, true, false, false, false, false, false, false, false, false, false, false, false, false, false, false, false] rfl rfl (by kernel_rfl) (fun _ _ _ h => h) (Or.inl ⟨by rfl, ?_⟩) ?_ ?_
                  rotate_left
                  · intro w'
                    go_simp
                    with_reducible rfl
                  rotate_left
                  · simp only [Act.put, List.setIfInBounds_toArray, List.set_cons_zero, List.set_cons_succ, i64_w, i32_w]
                    rfl
                  refine pure_ (i := 2) (N := some 85) (v := ?_) (a' := ?_) #[true, true, true, false, false, false, false, false, false, false, false, false, false, false, false, false, false] rfl rfl (by kernel_rfl) (fun _ _ _ h => h) (Or.inl ⟨by rfl, ?_⟩) ?_ ?_
                  rotate_left
                  · intro w'
                    go_simp
                    with_reducible rfl
                  rotate_left
                  · simp only [Act.put, List.setIfInBounds_toArray, List.set_cons_zero, List.set_cons_succ, i64_w, i32_w]
                    rfl
                  refine pure_ (i := 4) (N := some 87) (v := ?_) (a' := ?_) #[true, true, true, false, true, false, false, false, false, false, false, false, false, false, false, false, false] rfl rfl (by kernel_rfl) (fun _ _ _ h => h) (Or.inl ⟨by rfl, ?_⟩) ?_ ?_
                  rotate_left
                  · intro w'
                    go_simp
                    with_reducible rfl
                  rotate_left
                  · simp only [Act.put, List.setIfInBounds_toArray, List.set_cons_zero, List.set_cons_succ, i64_w, i32_w]
                    rfl
                  refine pure_ (i := 5) (N := some 88) (v := ?_) (a' := ?_) #[true, true, true, false, true, true, false, false, false, false, false, false, false, false, false, false, false] rfl rfl (by kernel_rfl) (fun _ _ _ h => h) (Or.inl ⟨by rfl, ?_⟩) ?_ ?_
                  rotate_left
                  · intro w'
                    go_simp
                    with_reducible rfl
                  rotate_left
                  · simp only [Act.put, List.setIfInBounds_toArray, List.set_cons_zero, List.set_cons_succ, i64_w, i32_w]
                    rfl
                  refine pure_ (i := 6) (N := some 89) (v := ?_) (a' := ?_) #[true, true, true, false, true, true, true, false, false, false, false, false, false, false, false, false, false] rfl rfl (by kernel_rfl) (fun _ _ _ h => h) (Or.inl ⟨by rfl, ?_⟩) ?_ ?_
                  rotate_left
                  · intro w'
                    go_simp
                    with_reducible rfl
                  rotate_left
                  · simp only [Act.put, List.setIfInBounds_toArray, List.set_cons_zero, List.set_cons_succ, i64_w, i32_w]
                    rfl
                  refine pure_ (i := 7) (N := some 90) (v := ?_) (a' := ?_) #[true, true, true, false, true, true, true, true, false, false, false, false, false, false, false, false, false] rfl rfl (by kernel_rfl) (fun _ _ _ h => h) (Or.inl ⟨by rfl, ?_⟩) ?_ ?_
                  rotate_left
                  · intro w'
                    go_simp
                    with_reducible rfl
                  rotate_left
                  · simp only [Act.put, List.setIfInBounds_toArray, List.set_cons_zero, List.set_cons_succ, i64_w, i32_w]
                    rfl
                  refine take_ (i := 3) (N := some 86) (v := ?_) (a' := ?_) #[true, true, true, true, true, true, true, true, false, false, false, false, false, false, false, false, false] rfl rfl (by kernel_rfl) (fun _ _ _ h => h) (Or.inl ⟨by rfl, ?_⟩) hHeld ?_ ?_
                  rotate_left
                  · rintro w' ⟨s0, s1⟩
                    go_simp
                    with_reducible rfl
                  rotate_left
                  · simp only [Act.put, List.setIfInBounds_toArray, List.set_cons_zero, List.set_cons_succ, i64_w, i32_w]
                    rfl
                  refine take_ (i := 8) (N := some 91) (v := ?_) (a' := ?_) #[true, true, true, true, true, true, true, true, true, false, false, false, false, false, false, false, false] rfl rfl (by kernel_rfl) (fun _ _ _ h => h) (Or.inl ⟨by rfl, ?_⟩) hHeld ?_ ?_
                  rotate_left
                  · rintro w' ⟨s0, s1⟩
                    go_simp
                    with_reducible rfl
                  rotate_left
                  · simp only [Act.put, List.setIfInBounds_toArray, List.set_cons_zero, List.set_cons_succ, i64_w, i32_w]
                    rfl
                  refine one_ (i := 9) (N := some 92) #[true, true, true, true, true, true, true, true, true, true, false, false, false, false, false, false, false] rfl rfl (by kernel_rfl) (by decide) (fun K hK => ?_)
                  refine goes_ Try.func11 (by kernel_rfl) rfl #[.int .u16 y, .int .u8 p1] (by rfl) rfl rfl (by simp only [List.map_toArray, List.map_cons, List.map_nil]; rfl) ?_
                  with_reducible refine (KA.out _).mono ?_
                  rintro e w3 ⟨rfl, hbz⟩
                  refine ⟨_, rfl, ?_⟩
                  replace hv := (hbz.cell (World.block_lt_of_cell? _ _ hv)).trans hv
                  replace hq1 := (hbz.cell (World.block_lt_of_cell? _ _ hq1)).trans hq1
                  replace OE := Aside0.mk (OE.out.below hbz)
                  replace OV := Aside0.mk (OV.out.below hbz)
                  replace RQ := Aside0.mk (Kd.R_below RQ.out hbz)
                  have HBn := Aside0.mk (below_step (by repeat (first | (with_reducible first | exact HB.out | apply below_alloc | apply pw_below_drewN | apply below_drew1) | exact HB.out)) hbz)
                  clear HB hbz
                  have HB := HBn
                  clear HBn
                  refine hK.out _ _ ⟨hv, hq1⟩ (fun hHeld => ?_)
                  clear hK K
                  refine norm_ (a' := ?_) ?_ ?_
                  rotate_left
                  · show Act.put _ (some 92) _ = _
                    simp only [Act.put, List.setIfInBounds_toArray, List.set_cons_zero, List.set_cons_succ, i64_w, i32_w]
                    rfl
                  refine pure_ (i := 10) (N := some 82) (v := ?_) (a' := ?_) #[true, true, true, true, true, true, true, true, true, true, true, false, false, false, false, false, false] rfl rfl (by kernel_rfl) (fun _ _ _ h => h) (Or.inl ⟨by rfl, ?_⟩) ?_ ?_
                  rotate_left
                  · intro w'
                    go_simp
                    with_reducible rfl
                  rotate_left
                  · simp only [Act.put, List.setIfInBounds_toArray, List.set_cons_zero, List.set_cons_succ, i64_w, i32_w]
                    rfl
                  refine pure_ (i := 11) (N := some 93) (v := ?_) (a' := ?_) #[true, true, true, true, true, true, true, true, true, true, true, true, false, false, false, false, false] rfl rfl (by kernel_rfl) (fun _ _ _ h => h) (Or.inl ⟨by rfl, ?_⟩) ?_ ?_
                  rotate_left
                  · intro w'
                    go_simp
                    with_reducible rfl
                  rotate_left
                  · simp only [Act.put, List.setIfInBounds_toArray, List.set_cons_zero, List.set_cons_succ, i64_w, i32_w]
                    rfl
                  refine pure_ (i := 12) (N := some 94) (v := ?_) (a' := ?_) #[true, true, true, true, true, true, true, true, true, true, true, true, true, false, false, false, false] rfl rfl (by kernel_rfl) (fun _ _ _ h => h) (Or.inl ⟨by rfl, ?_⟩) ?_ ?_
                  rotate_left
                  · intro w'
                    go_simp
                    with_reducible rfl
                  rotate_left
                  · simp only [Act.put, List.setIfInBounds_toArray, List.set_cons_zero, List.set_cons_succ, i64_w, i32_w]
                    rfl
                  refine pure_ (i := 13) (N := some 95) (v := ?_) (a' := ?_) #[true, true, true, true, true, true, true, true, true, true, true, true, true, true, false, false, false] rfl rfl (by kernel_rfl) (fun _ _ _ h => h) (Or.inl ⟨by rfl, ?_⟩) ?_ ?_
                  rotate_left
                  · intro w'
                    go_simp
                    with_reducible rfl
                  rotate_left
                  · simp only [Act.put, List.setIfInBounds_toArray, List.set_cons_zero, List.set_cons_succ, i64_w, i32_w]
                    rfl
                  refine pure_ (i := 14) (N := some 11) (v := ?_) (a' := ?_) #[true, true, true, true, true, true, true, true, true, true, true, true, true, true, true, false, false] rfl rfl (by kernel_rfl) (fun _ _ _ h => h) (Or.inl ⟨by rfl, ?_⟩) ?_ ?_
                  rotate_left
                  · intro w'
                    go_simp
                    with_reducible rfl
                  rotate_left
                  · simp only [Act.put, List.setIfInBounds_toArray, List.set_cons_zero, List.set_cons_succ, i64_w, i32_w]
                    rfl
                  refine pure_ (i := 15) (N := some 12) (v := ?_) (a' := ?_) #[true, true, true, true, true, true, true, true, true, true, true, true, true, true, true, true, false] rfl rfl (by kernel_rfl) (fun _ _ _ h => h) (Or.inl ⟨by rfl, ?_⟩) ?_ ?_
                  rotate_left
                  · intro w'
                    go_simp
                    with_reducible rfl
                  rotate_left
                  · simp only [Act.put, List.setIfInBounds_toArray, List.set_cons_zero, List.set_cons_succ, i64_w, i32_w]
                    rfl
                  refine pure_ (i := 16) (N := some 13) (v := ?_) (a' := ?_) #[true, true, true, true, true, true, true, true, true, true, true, true, true, true, true, true, true] rfl rfl (by kernel_rfl) (fun _ _ _ h => h) (Or.inl ⟨by rfl, ?_⟩) ?_ ?_
                  rotate_left
                  · intro w'
                    go_simp
                    with_reducible rfl
                  rotate_left
                  · simp only [Act.put, List.setIfInBounds_toArray, List.set_cons_zero, List.set_cons_succ, i64_w, i32_w]
                    rfl
                  refine done_ (by kernel_rfl) ?_

                  obtain ⟨hv2, hvf⟩ := OV.out.cell i i0 hlt
                  clear hv hq1 KA hq0
                  go_wp2
                  go_roundg g'
                  case measure => omega
                  case rel => exact ⟨k + 1, y', by simp [u6], ⟨gstep hg.out⟩, ⟨FN.out⟩, ⟨by rw [heL'.out]; exact OE.out.far (fun e => hne e.symm) _ _⟩, ⟨by have := OV.out.put i y'; rw [← hwL'.out, List.set_set] at this; exact this⟩, ⟨OV.out.R_over RQ.out (by decide) _ _⟩, ⟨below_set HB.out OV.out.2.2.1⟩⟩
                · have b4 : (p0 == i) = false := by rw [beq_eq_false_iff_ne]; exact hpi
                  rw [if_neg hpi] at FN
                  clear hpi
                  go_wp2
                  go_roundg g'
                  case measure => omega
                  case rel => exact ⟨k + 1, y, by simp [u6], ⟨gstep hg.out⟩, ⟨FN.out⟩, OE, OV, RQ, HB⟩
              · have b3 : decide ((k : Int) < (Q.length : Int)) = false := decide_eq_false (by omega)
                have b3' : decide (k < Q.length) = false := decide_eq_false hkt
                have hF := Lib.hid (show fo i u Q = y by rw [← hy.out, List.take_of_length_le (by omega)])
                clear hg
                go_wp2
                go_roundg g
                case measure => omega
                case rel => exact ⟨i + 1, _, _, rfl, ⟨by have := hg1.out; omega, by have := hg1.out; omega⟩, ⟨ST_next hST.out OE0.out OV0.out i0 hlt xr.out hF.out⟩, OE, OV, RQ, HB⟩
          · have b2 : decide (i < 48) = false := decide_eq_false hlt
            have hI := Aside0.mk (INV_start hST.out (by have := hg.out; omega) hV2.out)
            have hL48 := Aside0.mk OE.out.1
            clear hg hST
            go_wp2
            go_loopg [14, 15] Q.length (fun g v14 v15 w' => ∃ (la : Int) (A : Option Addr) (n c : Nat) (l : List S26) (eL : List Int), v14 = .int .i64 la ∧ v15 = .slice A n c ∧ Aside0 (l.length = n ∧ g = n ∧ n ≤ 64) ∧ Aside0 (INV la l eL wL) ∧ Aside0 (OW .u16 23 w' w.heap.size ge 48 ke eL) ∧ Aside0 (OW .u16 23 w' w.heap.size gw 48 kw wL) ∧ Aside0 (Kd.R k26 26 w' w.heap.size (fun _ => True) (.slice A n c) l) ∧ Aside0 (Below w.heap.size w w'))
            case atStart => exact ⟨0, AQ, Q.length, cQ, Q, eL, rfl, rfl, ⟨rfl, rfl, hLQ.out⟩, hI, OE, OV, RQ, HB⟩
            case round =>
              as_aux_lemma =>
              clear OE OV RQ HB hI hL48
              obtain ⟨la, A, n, c, l, eL, rfl, rfl, hn, hI, OE, OV, RL, HB⟩ := hrel
              by_cases hp : 0 < n
              · have IN := INV_next hI.out (by have := hn.out; omega) OE.out.1
                have hr := hI.out.2.2.2
                have hc := (Kd.R_reads' RL.out).2.1
                have RCx := Aside0.mk (show Kd.C k26 wr A n l by have h := (Kd.R_reads' RL.out).2.2; rw [hn.out.1] at h; exact h)
                have SV := Lib.hid fun (w : World) h hE => Serve_c A c l (some ⟨ge, 0, none⟩) ke 48 eL w n hn.out.1 OE.out.1 h hc (by have := hn.out; omega) hE (fun i i0 i1 => hr i i0 (by have := OE.out.1; omega))
                rw [IN.1] at SV
                obtain ⟨g, rfl⟩ : ∃ g, gk = g + 1 := ⟨gk - 1, by have := hn.out; omega⟩
                generalize sA l eL = cA at SV IN
                generalize sW l eL = cW at SV IN
                generalize sS l eL = sg at SV IN
                generalize sL l eL = l' at SV IN
                obtain ⟨n', hn'⟩ : ∃ n', l'.length = n' := ⟨_, rfl⟩
                have hA0 := Aside0.mk (show 0 ≤ cA by have := IN.2.1; omega)
                have hA1 := Aside0.mk (show cA < 48 by have := IN.2.1; omega)
                have hnn := Aside0.mk (show n' + 1 = n ∧ n' = g by have := hn.out; have := IN.2.2.1; omega)
                have b2 : decide (0 < (n : Int)) = true := decide_eq_true (by omega)
                have b2' : decide (0 < n) = true := decide_eq_true hp
                have t1 : decide (cA < la) = false := decide_eq_false (by have := IN.2.1; omega)
                have t2 : decide (47 < cA) = false := decide_eq_false (by have := IN.2.1; omega)
                have t3 : wrap64 ((n : Int) - 1) = (n' : Int) := by rw [w64 (by omega) (by have := hn.out; omega)]; have := hnn.out; omega
                have t4 : ((n' : Int) != (n' : Int)) = false := bne_self_eq_false _
                have hIN := Aside0.mk IN.2.2.2
                replace hn' := Lib.hid hn'
                clear IN hr hc hp hI
                go_upto_region 22 with (go_at_call 19; (with_reducible refine at_args #[.slice A n c, .slice (some ⟨ge, 0, none⟩) 48 ke] ?_); (with_reducible refine (SV.out _ RCx.out OE.out.C).mono ?_); rintro e w12 ⟨vs, rfl, hRs, hbz⟩; obtain ⟨As, cs, rfl⟩ := Kd.R_slice hRs; rw [hn'.out] at hRs ⊢; have RL2 := Aside0.mk (Kd.R_lower hRs (below_size HB.out)); clear RL hRs RCx; have RL := RL2; clear RL2; replace OE := Aside0.mk (OE.out.below hbz); replace OV := Aside0.mk (OV.out.below hbz); have HBn := Aside0.mk (below_step (by repeat (first | (with_reducible first | exact HB.out | apply below_alloc | apply pw_below_drewN | apply below_drew1) | exact HB.out)) hbz); clear HB hbz; have HB := HBn; clear HBn)
                clear SV
                have z0 : (w12.alloc (.cells #[.int .i64 cA, .int .u16 cW] 46)).cell? ⟨w12.heap.size, 0, none⟩ = some (.int .i64 cA) := by rw [World.cell?_alloc_mark]; rfl
                have z1 : (w12.alloc (.cells #[.int .i64 cA, .int .u16 cW] 46)).cell? ⟨w12.heap.size, 1, none⟩ = some (.int .u16 cW) := by rw [World.cell?_alloc_mark]; rfl
                have hnb := Aside0.mk (show ge ≠ w12.heap.size by have := OE.out.2.2.2.1; omega)
                have OE2 := Aside0.mk (OE.out.alloc (.cells #[.int .i64 cA, .int .u16 cW] 46))
                have OV2 := Aside0.mk (OV.out.alloc (.cells #[.int .i64 cA, .int .u16 cW] 46))
                have RL2 := Aside0.mk (Kd.R_alloc RL.out (.cells #[.int .i64 cA, .int .u16 cW] 46))
                have HB2 := Aside0.mk (below_alloc HB.out (.cells #[.int .i64 cA, .int .u16 cW] 46))
                clear OE OV RL HB
                generalize w12.alloc (.cells #[.int .i64 cA, .int .u16 cW] 46) = wb at z0 z1 OE2 OV2 RL2 HB2 ⊢
                obtain ⟨hb_, hhb⟩ : ∃ x, w12.heap.size = x := ⟨_, rfl⟩
                rw [hhb] at z0 z1 hnb ⊢
                clear hhb
                have OE := OE2
                have OV := OV2
                have RL := RL2
                have HB := HB2
                clear OE2 OV2 RL2 HB2
                go_upto_region 24 with fail
                have q5 := eq_true hA0.out
                have q6 := eq_true hA1.out
                refine start_ (n := 10) (S := fun w' => w'.cell? ⟨hb_, 0, none⟩ = some (.int .i64 cA) ∧ w'.cell? ⟨hb_, 1, none⟩ = some (.int .u16 cW)) (ds := []) #[false, false, false, false, false, false, false, false, false, false] (by kernel_rfl) rfl rfl ⟨z0, z1⟩ (fun hHeld => ?_)
                replace OE : Aside0 (OW .u16 23 wb.drew w.heap.size ge 48 ke eL) := ⟨OE.out.drew⟩
                replace OV : Aside0 (OW .u16 23 wb.drew w.heap.size gw 48 kw wL) := ⟨OV.out.drew⟩
                replace RL : Aside0 (Kd.R k26 26 wb.drew w.heap.size (fun _ => True) (.slice As n' cs) l') := ⟨Kd.R_drew RL.out⟩
                replace HB : Aside0 (Below w.heap.size w wb.drew) := ⟨by repeat (first | (with_reducible first | exact HB.out | apply below_alloc | apply pw_below_drewN | apply below_drew1) | exact HB.out)⟩
                change wb.drew.cell? _ = _ at z0 z1
                generalize wb.drew = wd at OE OV RL HB z0 z1 hHeld ⊢
                obtain ⟨se, sf⟩ := OE.out.cell cA hA0.out hA1.out
                refine pure_ (i := 0) (N := some 133) (v := ?_) (a' := ?_) #[true, false, false, false, false, false, false, false, false, false] rfl rfl (by kernel_rfl) (fun _ _ _ h => h) (Or.inl ⟨by rfl, ?_⟩) ?_ ?_
                rotate_left
                · intro w'
                  go_simp
                  with_reducible rfl
                rotate_left
                · simp only [Act.put, List.setIfInBounds_toArray, List.set_cons_zero, List.set_cons_succ, i64_w, i32_w]
                  rfl
                refine pure_ (i := 1) (N := some 134) (v := ?_) (a' := ?_) #[true, true, false, false, false, false, false, false, false, false] rfl rfl (by kernel_rfl) (fun _ _ _ h => h) (Or.inl ⟨by rfl, ?_⟩) ?_ ?_
                rotate_left
                · intro w'
                  go_simp
                  with_reducible rfl
                rotate_left
                · simp only [Act.put, List.setIfInBounds_toArray, List.set_cons_zero, List.set_cons_succ, i64_w, i32_w]
                  rfl
                refine pure_ (i := 3) (N := some 136) (v := ?_) (a' := ?_) #[true, true, false, true, false, false, false, false, false, false] rfl rfl (by kernel_rfl) (fun _ _ _ h => h) (Or.inl ⟨by rfl, ?_⟩) ?_ ?_
                rotate_left
                · intro w'
                  go_simp
                  with_reducible rfl
                rotate_left
                · simp only [Act.put, List.setIfInBounds_toArray, List.set_cons_zero, List.set_cons_succ, i64_w, i32_w]
                  rfl
                refine pure_ (i := 5) (N := some 138) (v := ?_) (a' := ?_) #[true, true, false, true, false, true, false, false, false, false] rfl rfl (by kernel_rfl) (fun _ _ _ h => h) (Or.inl ⟨by rfl, ?_⟩) ?_ ?_
                rotate_left
                · intro w'
                  go_simp
                  with_reducible rfl
                rotate_left
                · simp only [Act.put, List.setIfInBounds_toArray, List.set_cons_zero, List.set_cons_succ, i64_w, i32_w]
                  rfl
                refine take_ (i := 2) (N := some 135) (v := ?_) (a' := ?_) #[true, true, true, true, false, true, false, false, false, false] rfl rfl (by kernel_rfl) (fun _ _ _ h => h) (Or.inl ⟨by rfl, ?_⟩) hHeld ?_ ?_
                rotate_left
                · rintro w' ⟨s0, s1⟩
                  go_simp
                  with_reducible rfl
                rotate_left
                · simp only [Act.put, List.setIfInBounds_toArray, List.set_cons_zero, List.set_cons_succ, i64_w, i32_w]
                  rfl
                refine take_ (i := 4) (N := some 137) (v := ?_) (a' := ?_) #[true, true, true, true, true, true, false, false, false, false] rfl rfl (by kernel_rfl) (fun _ _ _ h => h) (Or.inl ⟨by rfl, ?_⟩) hHeld ?_ ?_
                rotate_left
                · rintro w' ⟨s0, s1⟩
                  go_simp
                  with_reducible rfl
                rotate_left
                · simp only [Act.put, List.setIfInBounds_toArray, List.set_cons_zero, List.set_cons_succ, i64_w, i32_w]
                  rfl
                refine pure_ (i := 7) (N := some 140) (v := ?_) (a' := ?_) #[true, true, true, true, true, true, false, true, false, false] rfl rfl (by kernel_rfl) (fun _ _ _ h => h) (Or.inl ⟨by rfl, ?_⟩) ?_ ?_
                rotate_left
                · intro w'
                  go_simp
                  with_reducible rfl
                rotate_left
                · simp only [Act.put, List.setIfInBounds_toArray, List.set_cons_zero, List.set_cons_succ, i64_w, i32_w]
                  rfl
                refine take_ (i := 6) (N := some 139) (v := ?_) (a' := ?_) #[true, true, true, true, true, true, true, true, false, false] rfl rfl (by kernel_rfl) (fun _ _ _ h => h) (Or.inl ⟨by rfl, ?_⟩) hHeld ?_ ?_
                rotate_left
                · rintro w' ⟨s0, s1⟩
                  go_simp
                  with_reducible rfl
                rotate_left
                · simp only [Act.put, List.setIfInBounds_toArray, List.set_cons_zero, List.set_cons_succ, i64_w, i32_w]
                  rfl
                refine one_ (i := 8) (N := none) #[true, true, true, true, true, true, true, true, true, false] rfl rfl (by kernel_rfl) (by decide) (fun K hK => ?_)
                refine skip_ (w1 := ?_) (by rfl) rfl ?_ ?_
                rotate_left
                · go_simp
                  rfl
                replace z0 := (World.cell?_setCell_far wd ⟨ge, cA.toNat, none⟩ ⟨hb_, 0, none⟩ (.int .u16 cW) hnb.out).trans z0
                replace z1 := (World.cell?_setCell_far wd ⟨ge, cA.toNat, none⟩ ⟨hb_, 1, none⟩ (.int .u16 cW) hnb.out).trans z1
                refine hK.out _ _ ⟨z0, z1⟩ (fun hHeld => ?_)
                clear hK K
                refine pure_ (i := 9) (N := some 14) (v := ?_) (a' := ?_) #[true, true, true, true, true, true, true, true, true, true] rfl rfl (by kernel_rfl) (fun _ _ _ h => h) (Or.inl ⟨by rfl, ?_⟩) ?_ ?_
                rotate_left
                · intro w'
                  go_simp
                  with_reducible rfl
                rotate_left
                · simp only [Act.put, List.setIfInBounds_toArray, List.set_cons_zero, List.set_cons_succ, i64_w, i32_w]
                  rfl
                refine done_ (by kernel_rfl) ?_

                go_wp2
                go_roundg g
                case measure => omega
                case rel => exact ⟨cA, As, n', cs, l', _, rfl, rfl, ⟨hn'.out, hnn.out.2.symm, by have := hn.out; have := hnn.out; omega⟩, hIN, ⟨OE.out.put cA cW⟩, ⟨OV.out.far hne _ _⟩, ⟨OE.out.R_over RL.out (by decide) _ _⟩, ⟨below_set HB.out OE.out.2.2.1⟩⟩
              · have b2 : decide (0 < (n : Int)) = false := decide_eq_false (by omega)
                have b2' : decide (0 < n) = false := decide_eq_false hp
                have hEQ := Aside0.mk (show ∀ j, 20 ≤ j → j < 48 → rd eL j = rd wL j by
                  have e : l = [] := List.eq_nil_of_length_eq_zero (by have := hn.out; omega)
                  have h := hI.out.2.2.1
                  rw [e] at h
                  exact fun j h1 h2 => h j h1 h2)
                have hRG := Aside0.mk hI.out.2.2.2
                clear hn hI hp RL
                go_wp2
                go_loopg [20] 28 (fun g v20 w' => ∃ i : Int, v20 = .int .i64 i ∧ Aside0 (20 ≤ i ∧ i + g = 48) ∧ Aside0 (OW .u16 23 w' w.heap.size ge 48 ke eL) ∧ Aside0 (OW .u16 23 w' w.heap.size gw 48 kw wL) ∧ Aside0 (Below w.heap.size w w'))
                case atStart => exact ⟨20, rfl, ⟨by decide, by decide⟩, OE, OV, HB⟩
                case round =>
                  clear OE OV HB
                  obtain ⟨i, rfl, hg, OE, OV, HB⟩ := hrel
                  by_cases hlt : i < 48
                  · obtain ⟨g, rfl⟩ : ∃ g, gk = g + 1 := ⟨gk - 1, by have := hg.out; omega⟩
                    have b5 : decide (i < 48) = true := decide_eq_true hlt
                    have i0 : 0 ≤ i := by have := hg.out; omega
                    have u7 : wrap64 (i + 1) = i + 1 := w64 (by omega) (by omega)
                    obtain ⟨hx, hxf⟩ := OE.out.cell i i0 hlt
                    obtain ⟨hv, hvf⟩ := OV.out.cell i i0 hlt
                    rw [hEQ.out i (by have := hg.out; omega) hlt] at hx
                    generalize rd wL i = y at hx hv
                    have b6 : (y != y) = false := bne_self_eq_false _
                    have q0 := eq_true i0
                    have q1 := eq_true hlt
                    clear hxf hvf
                    go_wp2
                    go_quiet (fail)
                    go_wp2
                    go_roundg g
                    case measure => omega
                    case rel => exact ⟨i + 1, by simp [u7], ⟨by have := hg.out; omega, by have := hg.out; omega⟩, ⟨by first | exact OE.out.drew | exact OE.out.drewN _ | exact OE.out⟩, ⟨by first | exact OV.out.drew | exact OV.out.drewN _ | exact OV.out⟩, ⟨by repeat (first | (with_reducible first | exact HB.out | apply below_alloc | apply pw_below_drewN | apply below_drew1) | exact HB.out)⟩⟩
                  · have b5 : decide (i < 48) = false := decide_eq_false hlt
                    have S0 := Lib.hid fun (w : World) hE => Serve_c none 0 [] (some ⟨ge, 0, none⟩) ke 48 eL w 0 rfl OE.out.1 ⟨rfl, Nat.zero_le _, fun h => absurd h (Nat.lt_irrefl 0)⟩ (Nat.le_refl _) (by decide) hE (fun i i0 i1 => hRG.out i i0 (by have := OE.out.1; omega))
                    rw [show sE [] eL = 14 by unfold sE; rfl] at S0
                    generalize sA [] eL = cA at S0
                    generalize sW [] eL = cW at S0
                    generalize sS [] eL = sg at S0
                    clear hg hlt
                    go_wp2_with (first | (go_at_call 19; (with_reducible refine at_args #[.slice none 0 0, .slice (some ⟨ge, 0, none⟩) 48 ke] ?_); (with_reducible refine (S0.out _ OE.out.C).mono ?_); rintro e w13 ⟨vs, rfl, hRs, hbz⟩; clear hRs; have HBn := Aside0.mk (below_step (by repeat (first | (with_reducible first | exact HB.out | apply below_alloc | apply pw_below_drewN | apply below_drew1) | exact HB.out)) hbz); clear HB hbz; have HB := HBn; clear HBn) | (go_at_call 16; (with_reducible refine at_args #[] ?_); (with_reducible refine (works_c _).mono ?_); rintro e w' ⟨rfl, hbw⟩; have HBn := Aside0.mk (below_step (by repeat (first | (with_reducible first | exact HB.out | apply below_alloc | apply pw_below_drewN | apply below_drew1) | exact HB.out)) hbw); clear HB hbw; have HB := HBn; clear HBn))
                    go_ret
                    exact ⟨rfl, by repeat (first | (with_reducible first | exact HB.out | apply below_alloc | apply pw_below_drewN | apply below_drew1) | exact HB.out)⟩

theorem order_law (a0 : Option Addr) (len0 cap0 : Nat) (z0 : List Int) (a1 : Int) (w : World)
    (w0 : (a0 = none ∧ len0 = 0 ∧ cap0 = 0 ∧ z0 = []) ∨ ∃ x, a0 = some x ∧ len0 ≤ cap0 ∧ cap0 ≤ maxLen ∧ z0.length = cap0 ∧ (∀ i, i < z0.length → w.cell? (x.add i) = some (.int .u8 (z0.getD i 0))) ∧ ∀ n ∈ z0, (Lit.int .u8 n).wf = true) (y0 : len0 * 1 ≤ 140737488351232) (w1 : (Lit.int .u16 a1).wf = true) :
    Calls Try.prog 7 #[.slice a0 len0 cap0, .int .u16 a1] w fun e w' => e = .returned (.bool true) ∧ Below w.heap.size w w' := by
  obtain ⟨l2, rfl, hr2, hm2, hw2, hc2⟩ := ReadsInt.ofRowC w0
  obtain ⟨n, rfl, hn⟩ := wf16 w1
  exact order_calls _ _ l2 _ (by omega) (by omega) w (Kd.C_of_reads (d := (0 : Int)) (h1 := fun _ => rfl) hr2) hc2 (fun x hx => by obtain ⟨n, rfl, h⟩ := wf8 (hw2 x hx); omega)
end Go.Proofs.Ytebnodldfddbnaa.Cnt
