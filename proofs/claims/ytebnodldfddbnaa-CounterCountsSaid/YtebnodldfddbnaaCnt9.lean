/- counter.Add and its reference: what they compute, and their contracts. -/
import Derived.Test.YtebnodldfddbnaaCnt8
namespace Go.Proofs.Ytebnodldfddbnaa.Cnt
open Go.RowKit Go.Proofs.Ytebnodldfddbnaa.PAll Go.Proofs.YtebnodldfddbnaaW.PrintWords Go.Proofs.YtebnodldfddbnaaW.PrintLast Go.Proofs.YtebnodldfddbnaaW.PrintMore Go.Proofs.Ytebnodldfddbnaa.Plain Go.Proofs.Ytebnodldfddbnaa.One Go.Proofs.Ytebnodldfddbnaa.Lit
set_option linter.unusedVariables false
set_option linter.unusedSimpArgs false
theorem infoPulse : (Try.prog.info? 26).map (fun i => (i.zero, i.size, i.bytes)) = some (some (.agg #[.int .i64 0, .int .u8 0]), 2, 16) := by kernel_rfl
theorem cell_keep {w : World} {o : Obj} {a : Addr} {v : Value} (h : w.cell? a = some v) : (w.alloc o).cell? a = some v :=
  (((Below.refl w.heap.size w).alloc (Nat.le_refl _) o).cell (World.block_lt_of_cell? w _ h)).trans h
theorem litP (W : World) (a : Nat) (x y : Int) (ha : a = W.heap.size) : Kd.C k26 (W.alloc (.cells #[.int .i64 x, .int .u8 y] 26)) (some ⟨a, 0, none⟩) 1 [⟨x, y⟩] :=
  lit_any k26 f26 (fun w x => k26_mk w x) W 26 [⟨x, y⟩] a 1 ha rfl (by simp)
def adE (n : Nat) (a k : Int) : Int := if a < 20 ∨ a > 47 then 3 else if ¬ (1 ≤ k ∧ k ≤ 7) then 2 else if 64 ≤ n then 13 else 0
def adL (l : List S26) (a k : Int) : List S26 := if adE l.length a k = 0 then l ++ [⟨a, k⟩] else []
theorem known_f (k : Int) : counter_known.f k = some (decide (1 ≤ k ∧ k ≤ 7)) := by
  unfold counter_known.f
  by_cases c : k > 0
  · rw [if_pos c]; congr 1; by_cases d : k ≤ 7 <;> simp [d] <;> omega
  · rw [if_neg c]; congr 1; symm; exact decide_eq_false (by omega)
set_option maxHeartbeats 4000000 in
theorem add_w (A : Option Addr) (c : Nat) (l : List S26) (n : Nat) (e0 : l.length = n) (at_ kk : Int) (w : World) (hr : Kd.C k26 w A n l) (hl : n ≤ 1000000) :
    Calls Try.prog 18 #[.slice A n c, .agg #[.int .i64 at_, .int .u8 kk]] w fun e w' => ∃ v, e = .returned (.tuple #[v, .int .i64 (adE n at_ kk)]) ∧ Kd.R k26 26 w' w.heap.size (fun _ => True) v (if adE n at_ kk = 0 then l ++ [⟨at_, kk⟩] else []) ∧ Below w.heap.size w w' := by
  have HB := Aside0.mk (Below.refl w.heap.size w)
  have hC0 := Aside0.mk hr
  clear hr
  by_cases c1 : at_ < 20
  · have b0 : decide (at_ < 20) = true := decide_eq_true c1
    have e : adE n at_ kk = 3 := by unfold adE; rw [if_pos (Or.inl c1)]
    rw [e, if_neg (by decide)]
    clear e c1
    go_enter Try.func18, Try.ntmps18
    go_wp2
    go_ret2
    exact ⟨_, rfl, Kd.R_nil _ _ _ _ _, by repeat (first | (with_reducible first | exact HB.out | apply below_alloc | apply pw_below_drewN | apply below_drew1) | exact HB.out)⟩
  have b0 : decide (at_ < 20) = false := decide_eq_false c1
  by_cases c2 : at_ > 47
  · have b1 : decide (at_ > 47) = true := decide_eq_true c2
    have b1' : decide (47 < at_) = true := decide_eq_true c2
    have e : adE n at_ kk = 3 := by unfold adE; rw [if_pos (Or.inr c2)]
    rw [e, if_neg (by decide)]
    clear e c1 c2
    go_enter Try.func18, Try.ntmps18
    go_wp2
    go_ret2
    exact ⟨_, rfl, Kd.R_nil _ _ _ _ _, by repeat (first | (with_reducible first | exact HB.out | apply below_alloc | apply pw_below_drewN | apply below_drew1) | exact HB.out)⟩
  have b1 : decide (at_ > 47) = false := decide_eq_false c2
  have b1' : decide (47 < at_) = false := decide_eq_false c2
  by_cases c3 : 1 ≤ kk ∧ kk ≤ 7
  case neg =>
    have KN := Lib.hid fun w => counter_known.calls kk false w (by rw [known_f, decide_eq_false c3])
    have e : adE n at_ kk = 2 := by unfold adE; rw [if_neg (by omega), if_pos c3]
    rw [e, if_neg (by decide)]
    clear e c1 c2 c3
    go_enter Try.func18, Try.ntmps18
    go_wp2_with (go_at_call 28; (with_reducible refine (KN.out _).mono ?_); rintro e w' ⟨rfl, ⟨nd, rfl⟩⟩)
    go_ret2
    exact ⟨_, rfl, Kd.R_nil _ _ _ _ _, by repeat (first | (with_reducible first | exact HB.out | apply below_alloc | apply pw_below_drewN | apply below_drew1) | exact HB.out)⟩
  have KN := Lib.hid fun w => counter_known.calls kk true w (by rw [known_f, decide_eq_true c3])
  by_cases c4 : 64 ≤ n
  · have b2 : decide ((n : Int) ≥ 64) = true := decide_eq_true (by omega)
    have b2' : decide (64 ≤ n) = true := decide_eq_true c4
    have e : adE n at_ kk = 13 := by unfold adE; rw [if_neg (by omega), if_neg (by omega), if_pos c4]
    rw [e, if_neg (by decide)]
    clear e c1 c2 c3 c4
    go_enter Try.func18, Try.ntmps18
    go_wp2_with (go_at_call 28; (with_reducible refine (KN.out _).mono ?_); rintro e w' ⟨rfl, ⟨nd, rfl⟩⟩)
    go_ret2
    exact ⟨_, rfl, Kd.R_nil _ _ _ _ _, by repeat (first | (with_reducible first | exact HB.out | apply below_alloc | apply pw_below_drewN | apply below_drew1) | exact HB.out)⟩
  have b2 : decide ((n : Int) ≥ 64) = false := decide_eq_false (by omega)
  have b2' : decide (64 ≤ n) = false := decide_eq_false c4
  · have e : adE n at_ kk = 0 := by unfold adE; rw [if_neg (by omega), if_neg (by omega), if_neg c4]
    rw [e, if_pos rfl]
    have hl64 := Lib.hid (show n < 64 by omega)
    have hlen := Lib.hid e0
    clear e c1 c2 c3 c4 e0
    go_enter Try.func18, Try.ntmps18
    go_wp2_with (go_at_call 28; (with_reducible refine (KN.out _).mono ?_); rintro e w' ⟨rfl, ⟨nd, rfl⟩⟩)
    have hbx0 : ((w.alloc (.cells #[.int .i64 at_, .int .u8 kk] 26)).drewN nd).cell? ⟨w.heap.size, 0, none⟩ = some (.int .i64 at_) := by rw [World.cell?_drewN, World.cell?_alloc_mark]; rfl
    have hbx1 : ((w.alloc (.cells #[.int .i64 at_, .int .u8 kk] 26)).drewN nd).cell? ⟨w.heap.size, 1, none⟩ = some (.int .u8 kk) := by rw [World.cell?_drewN, World.cell?_alloc_mark]; rfl
    have HB2 : Aside0 (Below w.heap.size w ((w.alloc (.cells #[.int .i64 at_, .int .u8 kk] 26)).drewN nd)) := ⟨by repeat (first | (with_reducible first | exact HB.out | apply below_alloc | apply pw_below_drewN | apply below_drew1) | exact HB.out)⟩
    clear HB KN
    have HB := HB2
    clear HB2
    obtain ⟨hb_, hhb⟩ : ∃ h, w.heap.size = h := ⟨_, rfl⟩
    rw [hhb] at hbx0 hbx1
    rw [show (Value.pointer (some ⟨w.heap.size, 0, none⟩)) = Value.pointer (some ⟨hb_, 0, none⟩) by rw [hhb]]
    clear hhb
    generalize World.drewN _ nd = wb at hbx0 hbx1 HB ⊢
    refine start_ (n := 7) (S := fun w' => w'.cell? ⟨hb_, 0, none⟩ = some (.int .i64 at_) ∧ w'.cell? ⟨hb_, 1, none⟩ = some (.int .u8 kk)) (ds := [4]) #[false, false, false, false, false, false, false] (by kernel_rfl) rfl rfl ⟨hbx0, hbx1⟩ (fun hHeld => ?_)
    replace HB : Aside0 (Below w.heap.size w wb.drew) := ⟨by repeat (first | (with_reducible first | exact HB.out | apply below_alloc | apply pw_below_drewN | apply below_drew1) | exact HB.out)⟩
    change wb.drew.cell? _ = _ at hbx0 hbx1
    generalize wb.drew = wd at HB hbx0 hbx1 hHeld ⊢
    refine pure_ (i := 0) (N := some 24) (v := ?_) (a' := ?_) #[true, false, false, false, false, false, false] rfl rfl (by kernel_rfl) (fun _ _ _ h => h) (Or.inl ⟨by rfl, ?_⟩) ?_ ?_
    rotate_left
    · intro w'
      go_simp
      with_reducible rfl
    rotate_left
    · simp only [Act.put, List.setIfInBounds_toArray, List.set_cons_zero, List.set_cons_succ, i64_w, i32_w]
      rfl
    refine take_ (i := 2) (N := some 26) (v := ?_) (a' := ?_) #[true, false, true, false, false, false, false] rfl rfl (by kernel_rfl) (fun _ _ _ h => h) (Or.inl ⟨by rfl, ?_⟩) hHeld ?_ ?_
    rotate_left
    · rintro w' ⟨s0, s1⟩
      go_simp
      with_reducible rfl
    rotate_left
    · simp only [Act.put, List.setIfInBounds_toArray, List.set_cons_zero, List.set_cons_succ, i64_w, i32_w]
      rfl
    refine join_ (σ := Value × Nat) 3 #[true, true, true, true, false, false, false] (fun s => [(25, s.1), (27, .slice (some ⟨s.2, 0, none⟩) 1 1)]) (fun s w' => (w'.cell? ⟨hb_, 0, none⟩ = some (.int .i64 at_) ∧ w'.cell? ⟨hb_, 1, none⟩ = some (.int .u8 kk)) ∧ Kd.R k26 26 w' w.heap.size (fun _ => True) s.1 l ∧ Kd.C k26 w' (some ⟨s.2, 0, none⟩) 1 [⟨at_, kk⟩] ∧ Below w.heap.size w w') ?_ ?_
    rotate_left
    · intro hCont
      refine two_ (i := 1) (j := 3) (Ni := some 25) (Nj := some 27) #[true, true, true, false, false, false, false] #[true, false, true, true, false, false, false] rfl rfl rfl rfl (by kernel_rfl) (by decide) (by decide) (fun K hK => ?_) (fun K hK => ?_)
      · skip
        refine Kd.R_append_rows_step k26 (Rr := k26.K (wd)) (w0 := w) w.heap.size ?hw2 (.const (.slice none 0 0)) (.tmp 24) 31 26 (.agg #[.int .i64 0, .int .u8 0]) 16 ?ho2 Try.underlying31 infoPulse rfl (by decide) (by decide) (.slice none 0 0) ([]) (l) (A) (n) (c) (fun _ => True) (fun _ => False) ?hs2 ?hx2 ?aO2 ?aR2 ?aKM2 (fun _ hk => hk.elim) (fun _ _ => trivial) ?aB2 ?aS2 ?aL2 ?_
        case hw2 => rfl
        case ho2 => rfl
        case hs2 => rfl
        case hx2 => rfl
        case aO2 => exact Kd.R_nil _ _ _ _ _
        case aR2 => exact Kd.C_below hC0.out (by repeat (first | (with_reducible first | exact HB.out | apply below_alloc | apply pw_below_drewN | apply below_drew1) | exact HB.out))
        case aKM2 => exact fun x cs h => by obtain rfl := k26_open h; exact k26_mkM _ _ _ x
        case aB2 => exact (by repeat (first | (with_reducible first | exact HB.out | apply below_alloc | apply pw_below_drewN | apply below_drew1) | exact HB.out))
        case aS2 => exact (below_size (by repeat (first | (with_reducible first | exact HB.out | apply below_alloc | apply pw_below_drewN | apply below_drew1) | exact HB.out)))
        case aL2 => have := hl64.out; have := hlen.out; simp; omega
        intro v25 w1 ho hb hg hat
        rw [List.nil_append] at ho
        have hbW := pw_below_grown (Below.refl _ _) none (Nat.le_refl _) hg (fun k hk => by cases hk)
        have R25 := Aside0.mk ho
        clear ho hg hat HB
        have HB := Aside0.mk hb
        clear hb
        replace hbx0 := (hbW.cell (World.block_lt_of_cell? _ _ hbx0)).trans hbx0
        replace hbx1 := (hbW.cell (World.block_lt_of_cell? _ _ hbx1)).trans hbx1
        clear hbW
        refine hK.out _ _ ⟨hbx0, hbx1⟩ (fun hHeld => ?_)
        clear hK K
        refine norm_ (a' := ?_) ?_ ?_
        rotate_left
        · show Act.put _ (some 25) _ = _
          simp only [Act.put, List.setIfInBounds_toArray, List.set_cons_zero, List.set_cons_succ, i64_w, i32_w]
          rfl
        refine one_ (i := 3) (N := some 27) #[true, true, true, true, false, false, false] rfl rfl (by kernel_rfl) (by decide) (fun K hK => ?_)
        refine value_ (w1 := ?_) (v := ?_) (by rfl) rfl ?_ ?_
        rotate_left 2
        · go_simp
          constructor
          · rfl
          · rfl
        have C27 := Aside0.mk (litP w1 w1.heap.size at_ kk rfl)
        obtain ⟨b27, hb27⟩ : ∃ b, w1.heap.size = b := ⟨_, rfl⟩
        rw [hb27] at C27 ⊢
        replace HB : Aside0 (Below w.heap.size w (w1.alloc (.cells #[.int .i64 at_, .int .u8 kk] 26))) := ⟨by repeat (first | (with_reducible first | exact HB.out | apply below_alloc | apply pw_below_drewN | apply below_drew1) | exact HB.out)⟩
        replace hbx0 := cell_keep (o := .cells #[.int .i64 at_, .int .u8 kk] 26) hbx0
        replace hbx1 := cell_keep (o := .cells #[.int .i64 at_, .int .u8 kk] 26) hbx1
        replace R25 := Aside0.mk (Kd.R_alloc R25.out (.cells #[.int .i64 at_, .int .u8 kk] 26))
        refine hK.out _ _ ⟨hbx0, hbx1⟩ (fun hHeld => ?_)
        clear hK K
        refine norm_ (a' := ?_) ?_ ?_
        rotate_left
        · show Act.put _ (some 27) _ = _
          simp only [Act.put, List.setIfInBounds_toArray, List.set_cons_zero, List.set_cons_succ, i64_w, i32_w]
          rfl
        exact norm_ (by simp only [putAll, Act.put, List.setIfInBounds_toArray, List.set_cons_zero, List.set_cons_succ]) (hCont (v25, b27) _ ⟨⟨hbx0, hbx1⟩, R25.out, C27.out, HB.out⟩)
      · skip
        refine value_ (w1 := ?_) (v := ?_) (by rfl) rfl ?_ ?_
        rotate_left 2
        · go_simp
          constructor
          · rfl
          · rfl
        have C27 := Aside0.mk (litP wd wd.heap.size at_ kk rfl)
        obtain ⟨b27, hb27⟩ : ∃ b, wd.heap.size = b := ⟨_, rfl⟩
        rw [hb27] at C27 ⊢
        replace HB : Aside0 (Below w.heap.size w (wd.alloc (.cells #[.int .i64 at_, .int .u8 kk] 26))) := ⟨by repeat (first | (with_reducible first | exact HB.out | apply below_alloc | apply pw_below_drewN | apply below_drew1) | exact HB.out)⟩
        replace hbx0 := cell_keep (o := .cells #[.int .i64 at_, .int .u8 kk] 26) hbx0
        replace hbx1 := cell_keep (o := .cells #[.int .i64 at_, .int .u8 kk] 26) hbx1
        refine hK.out _ _ ⟨hbx0, hbx1⟩ (fun hHeld => ?_)
        clear hK K
        refine norm_ (a' := ?_) ?_ ?_
        rotate_left
        · show Act.put _ (some 27) _ = _
          simp only [Act.put, List.setIfInBounds_toArray, List.set_cons_zero, List.set_cons_succ, i64_w, i32_w]
          rfl
        refine one_ (i := 1) (N := some 25) #[true, true, true, true, false, false, false] rfl rfl (by kernel_rfl) (by decide) (fun K hK => ?_)
        refine Kd.R_append_rows_step k26 (Rr := k26.K (wd.alloc (.cells #[.int .i64 at_, .int .u8 kk] 26))) (w0 := w) w.heap.size ?hw3 (.const (.slice none 0 0)) (.tmp 24) 31 26 (.agg #[.int .i64 0, .int .u8 0]) 16 ?ho3 Try.underlying31 infoPulse rfl (by decide) (by decide) (.slice none 0 0) ([]) (l) (A) (n) (c) (fun _ => True) (fun _ => False) ?hs3 ?hx3 ?aO3 ?aR3 ?aKM3 (fun _ hk => hk.elim) (fun _ _ => trivial) ?aB3 ?aS3 ?aL3 ?_
        case hw3 => rfl
        case ho3 => rfl
        case hs3 => rfl
        case hx3 => rfl
        case aO3 => exact Kd.R_nil _ _ _ _ _
        case aR3 => exact Kd.C_below hC0.out (by repeat (first | (with_reducible first | exact HB.out | apply below_alloc | apply pw_below_drewN | apply below_drew1) | exact HB.out))
        case aKM3 => exact fun x cs h => by obtain rfl := k26_open h; exact k26_mkM _ _ _ x
        case aB3 => exact (by repeat (first | (with_reducible first | exact HB.out | apply below_alloc | apply pw_below_drewN | apply below_drew1) | exact HB.out))
        case aS3 => exact (below_size (by repeat (first | (with_reducible first | exact HB.out | apply below_alloc | apply pw_below_drewN | apply below_drew1) | exact HB.out)))
        case aL3 => have := hl64.out; have := hlen.out; simp; omega
        intro v25 w1 ho hb hg hat
        rw [List.nil_append] at ho
        have hbW := pw_below_grown (Below.refl _ _) none (Nat.le_refl _) hg (fun k hk => by cases hk)
        have R25 := Aside0.mk ho
        clear ho hg hat HB
        have HB := Aside0.mk hb
        clear hb
        replace hbx0 := (hbW.cell (World.block_lt_of_cell? _ _ hbx0)).trans hbx0
        replace hbx1 := (hbW.cell (World.block_lt_of_cell? _ _ hbx1)).trans hbx1
        replace C27 := Aside0.mk (Kd.C_below C27.out hbW)
        clear hbW
        refine hK.out _ _ ⟨hbx0, hbx1⟩ (fun hHeld => ?_)
        clear hK K
        refine norm_ (a' := ?_) ?_ ?_
        rotate_left
        · show Act.put _ (some 25) _ = _
          simp only [Act.put, List.setIfInBounds_toArray, List.set_cons_zero, List.set_cons_succ, i64_w, i32_w]
          rfl
        exact norm_ (by simp only [putAll, Act.put, List.setIfInBounds_toArray, List.set_cons_zero, List.set_cons_succ]) (hCont (v25, b27) _ ⟨⟨hbx0, hbx1⟩, R25.out, C27.out, HB.out⟩)
    rintro ⟨v25, b27⟩ w5 ⟨⟨f0_, f1_⟩, g1_, g2_, g3_⟩
    clear hbx0 hbx1 HB hHeld
    have hHeld : w5.cell? ⟨hb_, 0, none⟩ = some (.int .i64 at_) ∧ w5.cell? ⟨hb_, 1, none⟩ = some (.int .u8 kk) := ⟨f0_, f1_⟩
    have hbx0 := f0_
    have hbx1 := f1_
    have R25 := Aside0.mk g1_
    have C27 := Aside0.mk g2_
    have HB := Aside0.mk g3_
    clear f0_ f1_ g1_ g2_ g3_
    refine norm_ (a' := ?_) ?_ ?_
    rotate_left
    · simp only [putAll, Act.put, List.setIfInBounds_toArray, List.set_cons_zero, List.set_cons_succ]
      rfl
    refine last_ (i := 4) (N := some 28) #[true, true, true, true, true, false, false] rfl rfl (by kernel_rfl) (by decide) (fun K hK => ?_)
    refine Kd.R_append_rows_step k26 (Rr := k26.K (w5)) (w0 := w) w.heap.size ?hw1 (.tmp 25) (.tmp 27) 31 26 (.agg #[.int .i64 0, .int .u8 0]) 16 ?ho1 Try.underlying31 infoPulse rfl (by decide) (by decide) (v25) (l) ([⟨at_, kk⟩]) (some ⟨b27, 0, none⟩) (1) (1) (fun _ => True) (fun _ => False) ?hs1 ?hx1 ?aO1 ?aR1 ?aKM1 (fun _ hk => hk.elim) (fun _ _ => trivial) ?aB1 ?aS1 ?aL1 ?_
    case hw1 => rfl
    case ho1 => rfl
    case hs1 => rfl
    case hx1 => rfl
    case aO1 => exact R25.out
    case aR1 => exact C27.out
    case aKM1 => exact fun x cs h => by obtain rfl := k26_open h; exact k26_mkM _ _ _ x
    case aB1 => exact (by repeat (first | (with_reducible first | exact HB.out | apply below_alloc | apply pw_below_drewN | apply below_drew1) | exact HB.out))
    case aS1 => exact (below_size (by repeat (first | (with_reducible first | exact HB.out | apply below_alloc | apply pw_below_drewN | apply below_drew1) | exact HB.out)))
    case aL1 => have := hl64.out; have := hlen.out; simp; omega
    intro v28 w6 ho hb hg hat
    have R28 := Aside0.mk ho
    clear ho hg hat HB
    have HB := Aside0.mk hb
    clear hb
    refine hK.out _ _ ?_
    clear hK K
    refine norm_ (a' := ?_) ?_ ?_
    rotate_left
    · show Act.put _ (some 28) _ = _
      simp only [Act.put, List.setIfInBounds_toArray, List.set_cons_zero, List.set_cons_succ, i64_w, i32_w]
      rfl
    refine pure_ (i := 5) (N := some 4) (v := ?_) (a' := ?_) #[true, true, true, true, true, true, false] rfl rfl (by kernel_rfl) (fun _ _ _ h => h) (Or.inl ⟨by rfl, ?_⟩) ?_ ?_
    rotate_left
    · intro w'
      go_simp
      with_reducible rfl
    rotate_left
    · simp only [Act.put, List.setIfInBounds_toArray, List.set_cons_zero, List.set_cons_succ, i64_w, i32_w]
      rfl
    refine pure_ (i := 6) (N := some 5) (v := ?_) (a' := ?_) #[true, true, true, true, true, true, true] rfl rfl (by kernel_rfl) (fun _ _ _ h => h) (Or.inl ⟨by rfl, ?_⟩) ?_ ?_
    rotate_left
    · intro w'
      go_simp
      with_reducible rfl
    rotate_left
    · simp only [Act.put, List.setIfInBounds_toArray, List.set_cons_zero, List.set_cons_succ, i64_w, i32_w]
      rfl
    refine done_ (by kernel_rfl) ?_

    go_wp2
    go_ret2
    exact ⟨_, rfl, R28.out, by repeat (first | (with_reducible first | exact HB.out | apply below_alloc | apply pw_below_drewN | apply below_drew1) | exact HB.out)⟩
theorem Add_c (A : Option Addr) (c : Nat) (l : List S26) (n : Nat) (e0 : l.length = n) (a k : Int) (w : World) (hr : Kd.C k26 w A n l) (hl : n ≤ 1000000) :
    Calls Try.prog 18 #[.slice A n c, .agg #[.int .i64 a, .int .u8 k]] w fun e w' => ∃ v, e = .returned (.tuple #[v, .int .i64 (adE n a k)]) ∧ Kd.R k26 26 w' w.heap.size (fun _ => True) v (adL l a k) ∧ Below w.heap.size w w' := by
  have := add_w A c l n e0 a k w hr hl
  unfold adL; rw [e0]; exact this
theorem radd6_f (l : List S26) (a k : Int) : periluneref06_Add.f 2 l a k = some (adL l a k, adE l.length a k) := by
  have j1 : ∀ b : Bool, (b = true ↔ ¬ (1 ≤ k ∧ k ≤ 7)) → ¬ (a < 20 ∨ a > 47) → periluneref06_Add.j1 1 l b a k = some (adL l a k, adE l.length a k) := by
    intro b hb ha
    simp only [periluneref06_Add.j1]
    by_cases c : ¬ (1 ≤ k ∧ k ≤ 7)
    · have e : adE l.length a k = 2 := by unfold adE; rw [if_neg ha, if_pos c]
      rw [if_pos (hb.2 c)]; unfold adL; rw [e]; rfl
    · rw [if_neg (fun h => c (hb.1 h))]
      by_cases d : 64 ≤ l.length
      · have e : adE l.length a k = 13 := by unfold adE; rw [if_neg ha, if_neg c, if_pos d]
        rw [if_pos (by omega)]; unfold adL; rw [e]; rfl
      · have e : adE l.length a k = 0 := by unfold adE; rw [if_neg ha, if_neg c, if_neg d]
        rw [if_neg (by omega), if_pos (by simp; omega), Option.bind_some, if_pos (by simp; omega)]
        unfold adL; rw [e, if_pos rfl]; rfl
  have j0 : ∀ b : Bool, (b = true ↔ (a < 20 ∨ a > 47)) → periluneref06_Add.j0 2 l b a k = some (adL l a k, adE l.length a k) := by
    intro b hb
    simp only [periluneref06_Add.j0]
    by_cases c : a < 20 ∨ a > 47
    · have e : adE l.length a k = 3 := by unfold adE; rw [if_pos c]
      rw [if_pos (hb.2 c)]; unfold adL; rw [e]; rfl
    · rw [if_neg (fun h => c (hb.1 h))]
      by_cases d : k < 1
      · rw [if_pos d]; exact j1 true (by constructor <;> intro _ <;> first | rfl | omega) c
      · rw [if_neg d]; exact j1 _ (by rw [decide_eq_true_eq]; omega) c
  unfold periluneref06_Add.f
  by_cases c : a < 20
  · rw [if_pos c]; exact j0 true (by constructor <;> intro _ <;> first | rfl | exact Or.inl c)
  · rw [if_neg c]; exact j0 _ (by rw [decide_eq_true_eq]; omega)
theorem rAdd_c (A : Option Addr) (c : Nat) (l : List S26) (n : Nat) (e0 : l.length = n) (a k : Int) (w : World) (hr : Kd.C k26 w A n l) (hc : n ≤ c) :
    Calls Try.prog 23 #[.slice A n c, .agg #[.int .i64 a, .int .u8 k]] w fun e w' => ∃ v, e = .returned (.tuple #[v, .int .i64 (adE n a k)]) ∧ Kd.R k26 26 w' w.heap.size (fun _ => True) v (adL l a k) ∧ Below w.heap.size w w' := by
  subst e0; exact periluneref06_Add.calls 2 A c l a k _ _ w hr hc (radd6_f l a k)
end Go.Proofs.Ytebnodldfddbnaa.Cnt
